/- Part of a proof. No condition. -/
import Derived.Test.YtllalbnibhofiaaGreatDoorZWo
import Derived.Test.YtllalbnibhofiaaGreatDoorZGa
import Derived.Test.YtllalbnibhofiaaGreatDoorPcB
import Derived.Test.YtllalbnibhofiaaGreatDoorAxE
set_option linter.unusedSimpArgs false
set_option linter.unusedVariables false
namespace Go.ZInst
open Go.Proofs Go.Ax Go.Pc
set_option maxRecDepth 100000
open Go.Proofs Go.Ax Go.Pc
set_option maxRecDepth 100000
theorem d17 (w:W) (n v:Nat) (hn:n < 64) (hv:v < 256):f7x L.env Mf 51 [.agg w.enc,.int .i64 n,.int .u8 v] [] = some (.agg (a6t w n v).enc,[]):=by
 have hc:=fun H=>b41 (d:=false) H v hv
 simp only [go_sem] at hc
 have h0:¬ (n:Int) < 0:=by omega
 (refine sv Tryz.f51 ?_;simp only [Tryz.f51,gS])
 (repeat first|simp only [ww]|(apply xa;simp +decide only [go_sem,hc,h0];rfl;kernel_rfl))
 (apply f6w;simp +decide only [go_sem,a6t,d7y]<;>rfl)
theorem b5p {d:Bool} (H:a04) (w:W) (n v:Nat) (hn:n < 64) (hv:v < 256):a0e L.env d (f7x L.env Mf) (.func (.func 51) [] []) [.agg w.enc,.int .i64 n,.int .u8 v] H = some (.agg (a6t w n v).enc,H,[]):=
 a03 (by kernel_rfl) (by kernel_rfl) rfl rfl (d17 w n v hn hv) rfl
theorem d7p (k:Nat) (hk:k < 256):f7x L.env Mf 85 [.int .u8 k] [] = some (.bool (a1o k),[]):=by
 by_cases h1:1 ≤ k
 ·have c1:(1:Int) ≤ k:=by omega
  by_cases h2:k ≤ 13
  ·have c2:(k:Int) ≤ 13:=by omega
   rw [show a1o k = true by simp [a1o,h1,h2]]
   (refine sv Tryz.f85 ?_;simp only [Tryz.f85,gS])
   (repeat first|simp only [ww]|(apply xa;simp +decide only [go_sem,c1,c2];rfl;kernel_rfl))
   (apply f6w;simp +decide only [go_sem]<;>rfl)
  ·have c2:¬ (k:Int) ≤ 13:=by omega
   rw [show a1o k = false by simp [a1o,h2]]
   (refine sv Tryz.f85 ?_;simp only [Tryz.f85,gS])
   (repeat first|simp only [ww]|(apply xa;simp +decide only [go_sem,c1,c2];rfl;kernel_rfl))
   (apply f6w;simp +decide only [go_sem]<;>rfl)
 ·have c1:¬ (1:Int) ≤ k:=by omega
  rw [show a1o k = false by simp [a1o,h1]]
  (refine sv Tryz.f85 ?_;simp only [Tryz.f85,gS])
  (repeat first|simp only [ww]|(apply xa;simp +decide only [go_sem,c1];rfl;kernel_rfl))
  (apply f6w;simp +decide only [go_sem]<;>rfl)
open Go.Proofs Go.Ax Go.Pc
set_option maxRecDepth 100000
theorem eqW (a b x y:BitVec 64) (c:Bool):a6d L.env .eql 111 (.agg [u64 a,u64 b]) (.agg [u64 x,u64 y]) c = some (.bool (decide (a = x) && decide (b = y))):=by
 have h:a6d L.env .eql 111 (.agg [u64 a,u64 b]) (.agg [u64 x,u64 y]) c = some (.bool (((a.toNat:Int) == (x.toNat:Int)) && (((b.toNat:Int) == (y.toNat:Int)) && true))):=by kernel_rfl
 rw [h]
 congr 2
 have e:∀ p q:BitVec 64,((p.toNat:Int) == (q.toNat:Int)) = decide (p = q):=by
  intro p q
  rw [Bool.eq_iff_iff,beq_iff_eq,decide_eq_true_eq]
  exact ⟨fun h=>BitVec.eq_of_toNat_eq (by omega),fun h=>by rw [h]⟩
 rw [e,e,Bool.and_true]
def atW (w:W) (j:Nat):Nat:=match w.one.getLsbD j,w.zero.getLsbD j with
 | false,true=>0
 | true,false=>1
 | false,false=>2
 | true,true=>3
theorem b6i (w:BitVec 64) (j:Nat):w >>> j &&& BitVec.ofInt 64 1 = if w.getLsbD j then 1#64 else 0#64:=by
 have h:=c3b w j
 have e:BitVec.ofInt 64 1 = 1#64:=by decide
 rw [e] at h ⊢
 split
 ·rename_i hb;rw [hb] at h;exact of_decide_eq_true h
 ·rename_i hb
  have hb:w.getLsbD j = false:=by simpa using hb
  apply BitVec.eq_of_getLsbD_eq
  intro i hi
  cases i with
  | zero=>simp [hb]
  | succ i=>simp [BitVec.getLsbD_one]
theorem e2a (w:W) (j:Nat) (hj:j < 64):f7x L.env Mf 50 [.agg w.enc,.int .i64 j] [] = some (.int .u8 (atW w j:Nat),[]):=by
 have c0:¬ (j:Int) < 0:=by omega
 have c1:¬ (64:Int) ≤ j:=by omega
 have ho:=b6i w.one j
 have hz:=b6i w.zero j
 have e0:BitVec.ofInt 64 0 = 0#64:=by decide
 have e1:BitVec.ofInt 64 1 = 1#64:=by decide
 unfold atW
 (refine sv Tryz.f50 ?_;simp only [Tryz.f50,gS])
 (repeat first|simp only [ww]|(apply xa;simp +decide only [go_sem,c0,c1,ho,hz];rfl;kernel_rfl))
 generalize w.one.getLsbD j = a
 generalize w.zero.getLsbD j = b
 refine a0w (σ:=Nat) kp50_0 (fun i=>[(5,.ptr 0 0 0),(24,.int .u8 i)])
  (fun _=>[some (.row 2 [[u64 (if a then 1#64 else 0#64),u64 (if b then 1#64 else 0#64)]])]) (fun i=>3 - i) (fun i=>i ≤ 3 ∧ (a = false ∧ b = true → i = 0) ∧ (a = true ∧ b = false → i ≤ 1) ∧ (a = false ∧ b = false → i ≤ 2)) 0 ?_ (by simp) ?_
 ·(simp +decide only [go_sem,a01,a00]<;>rfl)
 ·rintro i ⟨hi,h0,h1,h2⟩
  have hh:i = 0 ∨ i = 1 ∨ i = 2 ∨ i = 3:=by omega
  cases a<;>cases b<;>rcases hh with rfl|rfl|rfl|rfl<;>first|(exfalso;simp at h0 h1 h2;done)|skip
  all_goals first
   | ((repeat first|simp only [ww]|(apply xa;simp +decide only [go_sem,eqW,e0,e1];rfl;kernel_rfl));(apply f6w;simp +decide only [go_sem]<;>rfl);done)
   | ((repeat first|simp only [ww]|(apply xa;simp +decide only [go_sem,eqW,e0,e1];rfl;kernel_rfl));refine a1w 1 ?_ (by omega) (by simp);(simp +decide only [go_sem,a01,a00]<;>rfl);done)
   | ((repeat first|simp only [ww]|(apply xa;simp +decide only [go_sem,eqW,e0,e1];rfl;kernel_rfl));refine a1w 2 ?_ (by omega) (by simp);(simp +decide only [go_sem,a01,a00]<;>rfl);done)
   | ((repeat first|simp only [ww]|(apply xa;simp +decide only [go_sem,eqW,e0,e1];rfl;kernel_rfl));refine a1w 3 ?_ (by omega) (by simp);(simp +decide only [go_sem,a01,a00]<;>rfl);done)
open Go.Proofs Go.Ax Go.Pc
set_option maxRecDepth 100000
theorem d6y (k v:Nat):f7x L.env Mf 128 [.slice 0 0 1 (some 1),.int .u8 v] [some (.row 1 [[.int .u8 k]])] = some (.int .i64 (if v = k then 0 else -1),[some (.row 1 [[.int .u8 k]])]):=by
 (refine sv Tryz.f128 ?_;simp only [Tryz.f128,gS])
 (repeat first|simp only [ww]|(apply xa;simp +decide only [go_sem];rfl;kernel_rfl))
 refine a0w (σ:=Nat) kp128_0 (fun i=>[(0,.slice 0 0 1 (some 1)),(1,.int .u8 v),(7,.int .i64 1),(8,.int .i64 i)])
  (fun _=>[some (.row 1 [[.int .u8 k]])]) (fun i=>1 - i) (fun i=>i ≤ 1 ∧ (i = 1 → v ≠ k)) 0 ?_ (by simp) ?_
 ·(simp +decide only [go_sem,a01,a00]<;>rfl)
 ·rintro i ⟨hi,hne⟩
  have hh:i = 0 ∨ i = 1:=by omega
  rcases hh with rfl|rfl
  ·by_cases h:v = k
   ·subst h
    (repeat first|simp only [ww]|(apply xa;simp +decide only [go_sem,if_pos];rfl;kernel_rfl))
    (apply f6w;simp +decide only [go_sem,if_pos]<;>rfl)
   ·have c:¬ (v:Int) = k:=by omega
    (repeat first|simp only [ww]|(apply xa;simp +decide only [go_sem,c];rfl;kernel_rfl))
    refine a1w 1 ?_ (by omega) (by simp [h])
    (simp +decide only [go_sem,a01,a00]<;>rfl)
  ·have h:=hne rfl
   have c:¬ (v:Int) = k:=by omega
   rw [if_neg h]
   (repeat first|simp only [ww]|(apply xa;simp +decide only [go_sem,c];rfl;kernel_rfl))
   (apply f6w;simp +decide only [go_sem]<;>rfl)
theorem d32 (k v:Nat):f7x L.env Mf 105 [.slice 0 0 1 (some 1),.int .u8 v] [some (.row 1 [[.int .u8 k]])] = some (.bool (decide (v = k)),[some (.row 1 [[.int .u8 k]])]):=by
 have hc:a0e L.env false (f7x L.env Mf) (.func (.func 128) [] []) [.slice 0 0 1 (some 1),.int .u8 v] [some (.row 1 [[.int .u8 k]])] = some (.int .i64 (if v = k then 0 else -1),[some (.row 1 [[.int .u8 k]])],[0]):=
  a2g (by kernel_rfl) (by kernel_rfl) rfl rfl rfl (FlatO.row (FlatR.cons rfl FlatR.nil)) rfl rfl (d6y k v) rfl
 by_cases h:v = k
 ·rw [if_pos h] at hc
  (refine sv Tryz.f105 ?_;simp only [Tryz.f105,gS])
  (repeat first|simp only [ww]|(apply xa;simp +decide only [go_sem,hc];rfl;kernel_rfl))
  (apply f6w;simp +decide only [go_sem,h]<;>rfl)
 ·rw [if_neg h] at hc
  (refine sv Tryz.f105 ?_;simp only [Tryz.f105,gS])
  (repeat first|simp only [ww]|(apply xa;simp +decide only [go_sem,hc];rfl;kernel_rfl))
  (apply f6w;simp +decide only [go_sem,h]<;>rfl)
theorem c4y {d:Bool} (k v:Nat) (X:a04):a0e L.env d (f7x L.env Mf) (.func (.func 105) [] []) [.slice 0 0 1 (some 1),.int .u8 v] (some (.row 1 [[.int .u8 k]]) :: X) = some (.bool (decide (v = k)),some (.row 1 [[.int .u8 k]]) :: X,[0]):=
 a2g (by kernel_rfl) (by kernel_rfl) rfl rfl rfl (FlatO.row (FlatR.cons rfl FlatR.nil)) rfl rfl (d32 k v) rfl
/-- The nodes of a kind among the first i. -/
def a3n (nodes:List Nd) (k i:Nat):List Nat:=(List.range i).filter fun j=>decide (a0o nodes j = k)
theorem b3k (nodes:List Nd) (k i:Nat):a3n nodes k (i + 1) = if a0o nodes i = k then a3n nodes k i ++ [i] else a3n nodes k i:=by
 unfold a3n
 rw [List.range_succ,List.filter_append]
 by_cases h:a0o nodes i = k<;>simp [h]
theorem b3l (nodes:List Nd) (k i:Nat):(a3n nodes k i).length ≤ i:=Nat.le_trans (List.length_filter_le _ _) (by simp)
def kinds (nodes:List Nd) (k:Nat):List Nat:=a3n nodes k nodes.length
/-- A list a3j spare room, nil if it is empty. -/
def b4t (l:List Nat):AV:=sl (match l with|[]=>none|a :: r=>some (some (r.length + 1))) (l.map a0f)
theorem c2g:b4t [] = .nilslice:=by rfl
theorem b95 (a:Nat) (r:List Nat):b4t (a :: r) = .islice ((a :: r).map a0f) (some (r.length + 1)):=by rfl
theorem a13 {nodes:List Nd} {i:Nat} {x:Nd} (h:nodes[i]? = some x):a0o nodes i = x.kind:=by simp [a0o,h]
theorem a1u (l:List Nat):(l.map a0f).flatMap a0l = []:=a0a (FlatR.map fun _=>rfl)
theorem a2y (π:Nat → Option Nat) (l:List Nat):(l.map a0f).map (fun r=>r.map (ren π)) = l.map a0f:=a0d π (FlatR.map fun _=>rfl)
theorem c2z (l:List Nat):FlatR (l.map a0f):=FlatR.map fun _=>rfl
theorem d2k {m:Nat} {d:AV → Option AV} (l:List Nat):a8u m d (l.map a0f) = some (l.map a0f):=a0q m d (FlatR.map fun _=>rfl)
theorem c36:f7x L.env Mf 106 [.nilslice] [] = some (.nilslice,[]):=by
 (refine sv Tryz.f106 ?_;simp only [Tryz.f106,gS])
 (repeat first|simp only [ww]|(apply xa;simp +decide only [go_sem];rfl;kernel_rfl))
 (apply f6w;simp +decide only [go_sem]<;>rfl)
theorem d7r (n:Nat) (rows:List (List AV)) (hf:FlatR rows):f7x L.env Mf 106 [.slice 0 0 n none] [some (.row 1 rows)] = some (.slice 0 0 n (some n),[some (.row 1 rows)]):=by
 have h1:=fun π=>a0d π hf
 (refine sv Tryz.f106 ?_;simp only [Tryz.f106,gS])
 (repeat first|simp only [ww]|(apply xa;simp +decide only [go_sem];rfl;kernel_rfl))
 (apply f6w;simp +decide only [go_sem,h1]<;>rfl)
theorem b9o {d:Bool} {H:a04} {b n:Nat} {rows:List (List AV)} (hf:FlatR rows) (hb:a02 H b = some (.row 1 rows)):a0e L.env d (f7x L.env Mf) (.func (.func 106) [] []) [.slice b 0 n none] H = some (.slice b 0 n (some n),H,[b]):=by
 have h:=a7e (E:=L.env) (draw:=d) (call:=f7x L.env Mf) (g:=106) (fs:=[]) (cs:=[]) (ar:=[.slice b 0 n none]) (H:=H) (b:=b) (by kernel_rfl) (by kernel_rfl) rfl hb (a0t hf) (FlatO.row hf) rfl (args':=[AV.slice 0 0 n none]) (by simp only [List.nil_append,List.append_nil,List.map_cons,List.map_nil,a2b]) (d7r n rows hf) (FlatO.row hf) (a9m b 0 _ n _)
 rw [b27 hb] at h
 exact h
theorem e0y (c:Cir) (k:Nat) (hl:c.nodes.length < 1000000):f7x L.env Mf 71 [.agg c.enc,.slice 0 0 1 (some 1)] [some (.row 1 [[.int .u8 k]])] = some (b4t (kinds c.nodes k),[some (.row 1 [[.int .u8 k]])]):=by
 have hck:=fun v X=>c4y (d:=false) k v X
 (refine sv Tryz.f71 ?_;simp only [Tryz.f71,gS])
 (repeat first|simp only [ww]|(apply xa;simp +decide only [go_sem,Cir.enc];rfl;kernel_rfl))
 refine a0w (σ:=Nat) kp71_0 (fun i=>[(1,.slice 0 0 1 (some 1)),(5,grV 1 ((a3n c.nodes k i).map a0f)),(9,sl c.nc (c.nodes.map Nd.enc)),(10,.int .i64 c.nodes.length),(11,.int .i64 i)])
  (fun i=>some (.row 1 [[.int .u8 k]]) :: grH 1 ((a3n c.nodes k i).map a0f)) (fun i=>c.nodes.length - i) (fun i=>i ≤ c.nodes.length) 0 ?_ (Nat.zero_le _) ?_
 ·have e:a3n c.nodes k 0 = []:=rfl
  (simp +decide only [go_sem,a01,a00,e,List.map_nil,a0b,a0c]<;>rfl)
 ·intro i hi
  by_cases hlt:i < c.nodes.length
  ·obtain ⟨x,hx⟩:∃ x,c.nodes[i]? = some x:=⟨_,List.getElem?_eq_getElem hlt⟩
   have c1:(i:Int) < c.nodes.length:=by omega
   have hw:=wI1 (n:=i) (by omega)
   have hs:=b3k c.nodes k i
   rw [a13 hx] at hs
   have hle:=b3l c.nodes k i
   have hrm:(a3n c.nodes k i).length + 1 ≤ 1000000000:=by omega
   by_cases hk:x.kind = k
   ·rw [if_pos hk] at hs
    generalize a3n c.nodes k i = l at hs hle hrm
    cases l with
    | nil=>
     (repeat first|simp only [ww]|(apply xa;simp +decide only [go_sem,c1,hlt,hx,hw,hck,hk,List.map_nil,a0b,a0c];rfl;kernel_rfl))
     refine a1w (i + 1) ?_ (by omega) (by omega)
     rw [hs]
     (simp +decide only [go_sem,a01,a00,List.map_nil,List.nil_append,List.map_cons,a05,a06,List.length_nil]<;>rfl)
    | cons a r=>
     simp only [List.length_cons] at hrm
     (repeat first|simp only [ww]|(apply xa;simp +decide only [go_sem,c1,hlt,hx,hw,hck,hk,List.map_cons,a05,a06,hrm,List.length_cons];rfl;kernel_rfl))
     refine a1w (i + 1) ?_ (by omega) (by omega)
     rw [hs]
     (simp +decide only [go_sem,a01,a00,List.cons_append,List.map_cons,a05,a06,a1u,a2y,List.length_cons]<;>rfl)
   ·rw [if_neg hk] at hs
    have hk':¬ (x.kind:Int) = k:=by omega
    generalize a3n c.nodes k i = l at hs hle hrm
    cases l with
    | nil=>
     (repeat first|simp only [ww]|(apply xa;simp +decide only [go_sem,c1,hlt,hx,hw,hck,hk,List.map_nil,a0b,a0c];rfl;kernel_rfl))
     refine a1w (i + 1) ?_ (by omega) (by omega)
     rw [hs]
     (simp +decide only [go_sem,a01,a00,List.map_nil,a0b,a0c]<;>rfl)
    | cons a r=>
     (repeat first|simp only [ww]|(apply xa;simp +decide only [go_sem,c1,hlt,hx,hw,hck,hk,List.map_cons,a05,a06];rfl;kernel_rfl))
     refine a1w (i + 1) ?_ (by omega) (by omega)
     rw [hs]
     (simp +decide only [go_sem,a01,a00,List.map_cons,a05,a06,a1u,a2y]<;>rfl)
  ·obtain rfl:i = c.nodes.length:=by omega
   have c1:¬ (c.nodes.length:Int) < c.nodes.length:=by omega
   unfold kinds
   generalize a3n c.nodes k c.nodes.length = l
   cases l with
   | nil=>
    have hcl:=fun H=>a03 (E:=L.env) (draw:=false) (call:=f7x L.env Mf) (g:=106) (fs:=[]) (cs:=[]) (ar:=[.nilslice]) (H:=H) (by kernel_rfl) (by kernel_rfl) rfl rfl c36 rfl
    (repeat first|simp only [ww]|(apply xa;simp +decide only [go_sem,c1,List.map_nil,a0b,a0c,hcl];rfl;kernel_rfl))
    (apply f6w;simp +decide only [go_sem,c2g]<;>rfl)
   | cons a r=>
    have hcl:=b9o (d:=false) (H:=[some (.row 1 [[.int .u8 k]]),some (.row 1 ((a :: r).map a0f))]) (b:=1) (n:=r.length + 1) (c2z _) rfl
    simp only [List.map_cons,go_sem] at hcl
    (repeat first|simp only [ww]|(apply xa;simp +decide only [go_sem,c1,List.map_cons,a05,a06,List.length_map,hcl];rfl;kernel_rfl))
    (apply f6w;simp +decide only [go_sem,b95,List.map_cons,d2k,List.length_cons]<;>rfl)
theorem c6g (π:Nat → Option Nat) (c:Cir):ren π (.agg c.enc) = .agg c.enc:=a1c π _ (by simp only [a10,Cir.enc,go_sem])
theorem a57 (l:List Nat):refs (b4t l) = []:=a2i _ _
theorem b7a {d:Bool} {H:a04} {b:Nat} (c:Cir) {k:Nat} {n:Int} (hn:n = k) (hl:c.nodes.length < 1000000) (hb:a02 H b = some (.row 1 [[.int .u8 n]])) :
 a0e L.env d (f7x L.env Mf) (.func (.func 71) [] []) [.agg c.enc,.slice b 0 1 (some 1)] H = some (b4t (kinds c.nodes k),H,[b]):=by
 subst hn
 exact a2g (E:=L.env) (draw:=d) (call:=f7x L.env Mf) (g:=71) (fs:=[]) (cs:=[]) (ar:=[.agg c.enc,.slice b 0 1 (some 1)]) (H:=H) (b:=b) (by kernel_rfl) (by kernel_rfl) rfl hb rfl (FlatO.row (FlatR.cons rfl FlatR.nil)) (by simp only [List.nil_append,List.append_nil,a08,a10,Cir.enc,go_sem]) (args':=[.agg c.enc,.slice 0 0 1 (some 1)]) (by simp only [List.nil_append,List.append_nil,List.map_cons,List.map_nil,a2b,c6g]) (e0y c k hl) (a57 _)
theorem a2u (l:List Nat):∃ r,b4t l = sl r (l.map a0f):=⟨_,rfl⟩
theorem c7x (c:Cir) (hl:c.nodes.length < 1000000):f7x L.env Mf 37 [.agg c.enc] [] = some (b4t (kinds c.nodes 0),[]):=by
 have hc:=fun X=>b7a (d:=false) (H:=[X,some (.row 1 [[.int .u8 0]])]) (b:=1) c (k:=0) rfl hl rfl
 obtain ⟨r,hr⟩:=a2u (kinds c.nodes 0)
 rw [hr] at hc ⊢
 simp only [Cir.enc] at hc ⊢
 (refine sv Tryz.f37 ?_;simp only [Tryz.f37,gS])
 (repeat first|simp only [ww]|(apply xa;simp +decide only [go_sem,hc];rfl;kernel_rfl))
 (apply f6w;simp +decide only [go_sem]<;>rfl)
theorem c64 (c:Cir) (hl:c.nodes.length < 1000000):f7x L.env Mf 38 [.agg c.enc] [] = some (b4t (kinds c.nodes 14),[]):=by
 have hc:=fun X=>b7a (d:=false) (H:=[X,some (.row 1 [[.int .u8 14]])]) (b:=1) c (k:=14) rfl hl rfl
 obtain ⟨r,hr⟩:=a2u (kinds c.nodes 14)
 rw [hr] at hc ⊢
 simp only [Cir.enc] at hc ⊢
 (refine sv Tryz.f38 ?_;simp only [Tryz.f38,gS])
 (repeat first|simp only [ww]|(apply xa;simp +decide only [go_sem,hc];rfl;kernel_rfl))
 (apply f6w;simp +decide only [go_sem]<;>rfl)
theorem a7o {d:Bool} (H:a04) (c:Cir) (hl:c.nodes.length < 1000000):a0e L.env d (f7x L.env Mf) (.func (.func 37) [] []) [.agg c.enc] H = some (b4t (kinds c.nodes 0),H,[]):=
 a03 (by kernel_rfl) (by kernel_rfl) rfl (by simp only [a08,a10,Cir.enc,go_sem]) (c7x c hl) (a57 _)
theorem a5x {d:Bool} (H:a04) (c:Cir) (hl:c.nodes.length < 1000000):a0e L.env d (f7x L.env Mf) (.func (.func 38) [] []) [.agg c.enc] H = some (b4t (kinds c.nodes 14),H,[]):=
 a03 (by kernel_rfl) (by kernel_rfl) rfl (by simp only [a08,a10,Cir.enc,go_sem]) (c64 c hl) (a57 _)
open Go.Proofs Go.Ax Go.Pc
set_option maxRecDepth 100000
/-- The function that tells indexes outside of a circuit. -/
def c43 (c:Cir):AV:=.func (.func 139) [] [.iptr c.enc]
theorem c6i (c:Cir):refs (c43 c) = []:=by rfl
theorem c42 (c:Cir):f7x L.env Mf 125 [.agg c.enc] [] = some (c43 c,[]):=by
 unfold c43
 simp only [Cir.enc]
 (refine sv Tryz.f125 ?_;simp only [Tryz.f125,gS])
 (repeat first|simp only [ww]|(apply xa;simp +decide only [go_sem];rfl;kernel_rfl))
 (apply f6w;simp +decide only [go_sem]<;>rfl)
theorem a87 {d:Bool} (H:a04) (c:Cir):a0e L.env d (f7x L.env Mf) (.func (.func 125) [] []) [.agg c.enc] H = some (c43 c,H,[]):=
 a03 (by kernel_rfl) (by kernel_rfl) rfl (by simp only [a08,a10,Cir.enc,go_sem]) (c42 c) rfl
theorem d6a (c:Cir) (m:Nat) (hm:m < c.nodes.length):f7x L.env Mf 139 [.int .i64 m,.iptr c.enc] [] = some (.bool false,[]):=by
 have c1:¬ (m:Int) < 0:=by omega
 have c2:¬ (c.nodes.length:Int) ≤ m:=by omega
 simp only [Cir.enc]
 (refine sv Tryz.f139 ?_;simp only [Tryz.f139,gS])
 (repeat first|simp only [ww]|(apply xa;simp +decide only [go_sem,c1,c2];rfl;kernel_rfl))
 (apply f6w;simp +decide only [go_sem]<;>rfl)
theorem b8r {d:Bool} (H:a04) (c:Cir) (m:Nat) (hm:m < c.nodes.length):a0e L.env d (f7x L.env Mf) (c43 c) [.int .i64 m] H = some (.bool false,H,[]):=
 a03 (by kernel_rfl) (by kernel_rfl) rfl (by simp only [a08,Cir.enc,go_sem]) (d6a c m hm) rfl
theorem c80 (r:Rep) (l:List Nat) (f:AV) (hf:refs f = []) (hl:l.length < 1000000) (hc:∀ m ∈ l,a0e L.env false (f7x L.env Mf) f [.int .i64 m] [] = some (.bool false,[],[])) :
 f7x L.env Mf 138 [sl r (l.map a0f),f] [] = some (.int .i64 (-1),[]):=by
 have hr:∀ π,ren π f = f:=fun π=>a1c π f hf
 (refine sv Tryz.f138 ?_;simp only [Tryz.f138,gS])
 (repeat first|simp only [ww]|(apply xa;simp +decide only [go_sem];rfl;kernel_rfl))
 refine a0w (σ:=Nat) kp138_0 (fun i=>[(0,sl r (l.map a0f)),(1,f),(7,.int .i64 l.length),(8,.int .i64 i)])
  (fun _=>[]) (fun i=>l.length - i) (fun i=>i ≤ l.length) 0 ?_ (Nat.zero_le _) ?_
 ·(simp +decide only [go_sem,a01,a00,hf,hr]<;>rfl)
 ·intro i hi
  by_cases hlt:i < l.length
  ·obtain ⟨x,hx⟩:∃ x,l[i]? = some x:=⟨_,List.getElem?_eq_getElem hlt⟩
   have c1:(i:Int) < l.length:=by omega
   have hw:=wI1 (n:=i) (by omega)
   have hcx:=hc x (List.mem_of_getElem? hx)
   (repeat first|simp only [ww]|(apply xa;simp +decide only [go_sem,c1,hlt,hx,hw,hcx];rfl;kernel_rfl))
   refine a1w (i + 1) ?_ (by omega) (by omega)
   (simp +decide only [go_sem,a01,a00,hf,hr]<;>rfl)
  ·obtain rfl:i = l.length:=by omega
   have c1:¬ (l.length:Int) < l.length:=by omega
   (repeat first|simp only [ww]|(apply xa;simp +decide only [go_sem,c1];rfl;kernel_rfl))
   (apply f6w;simp +decide only [go_sem]<;>rfl)
theorem c4z (r:Rep) (l:List Nat) (f:AV) (hf:refs f = []) (hl:l.length < 1000000) (hc:∀ m ∈ l,a0e L.env false (f7x L.env Mf) f [.int .i64 m] [] = some (.bool false,[],[])) :
 f7x L.env Mf 124 [sl r (l.map a0f),f] [] = some (.bool false,[]):=by
 have h:=fun H=>a03 (E:=L.env) (draw:=false) (call:=f7x L.env Mf) (g:=138) (fs:=[]) (cs:=[]) (ar:=[sl r (l.map a0f),f]) (H:=H) (by kernel_rfl) (by kernel_rfl) rfl (by simp only [List.nil_append,List.append_nil,a08,hf,go_sem]) (c80 r l f hf hl hc) rfl
 have c1:¬ (0:Int) ≤ -1:=by omega
 (refine sv Tryz.f124 ?_;simp only [Tryz.f124,gS])
 (repeat first|simp only [ww]|(apply xa;simp +decide only [go_sem,h,c1];rfl;kernel_rfl))
 (apply f6w;simp +decide only [go_sem]<;>rfl)
theorem b9j {d:Bool} (H:a04) (c:Cir) (r:Rep) (l:List Nat) (hl:l.length < 1000000) (h:∀ m ∈ l,m < c.nodes.length) :
 a0e L.env d (f7x L.env Mf) (.func (.func 124) [] []) [sl r (l.map a0f),c43 c] H = some (.bool false,H,[]):=
 a03 (by kernel_rfl) (by kernel_rfl) rfl (by simp only [List.nil_append,List.append_nil,a08,c6i,go_sem]) (c4z r l (c43 c) rfl hl (fun m hm=>b8r [] c m (h m hm))) rfl
/- the drivers of a bus -/
theorem d1a (c:Cir) (m:Nat) (hm:m < c.nodes.length) (hk:a0o c.nodes m = 12):f7x L.env Mf 134 [.int .i64 m,.ptr 0 0 0] [some (.row 4 [c.enc])] = some (.bool false,[some (.row 4 [c.enc])]):=by
 obtain ⟨x,hx⟩:∃ x,c.nodes[m]? = some x:=⟨_,List.getElem?_eq_getElem hm⟩
 rw [a13 hx] at hk
 simp only [Cir.enc]
 (refine sv Tryz.f134 ?_;simp only [Tryz.f134,gS])
 (repeat first|simp only [ww]|(apply xa;simp +decide only [go_sem,hx,hk,hm];rfl;kernel_rfl))
 (apply f6w;simp +decide only [go_sem]<;>rfl)
theorem a7c (c:Cir):FlatR [c.enc]:=FlatR.cons (by simp only [Cir.enc,go_sem]) FlatR.nil
theorem c44 {d:Bool} (H:a04) (c:Cir) (b m:Nat) (hb:a02 H b = some (.row 4 [c.enc])) (hm:m < c.nodes.length) (hk:a0o c.nodes m = 12):a0e L.env d (f7x L.env Mf) (.func (.func 134) [] [.ptr b 0 0]) [.int .i64 m] H = some (.bool false,H,[b]):=
 a2g (fs:=[]) (cs:=[.ptr b 0 0]) (ar:=[.int .i64 m]) (by kernel_rfl) (by kernel_rfl) rfl hb (a0t (a7c c)) (FlatO.row (a7c c)) rfl (args':=[.int .i64 m,.ptr 0 0 0]) (by simp [ren,a9o]) (d1a c m hm hk) rfl
theorem c4f (r:Rep) (l:List Nat) (c:Cir) (hl:l.length < 1000000) (hc:∀ m ∈ l,m < c.nodes.length ∧ a0o c.nodes m = 12) :
 f7x L.env Mf 138 [sl r (l.map a0f),.func (.func 134) [] [.ptr 0 0 0]] [some (.row 4 [c.enc])] = some (.int .i64 (-1),[some (.row 4 [c.enc])]):=by
 have hfl:a0l c.enc = []:=by simp only [Cir.enc,go_sem]
 have hrn:∀ π,c.enc.map (ren π) = c.enc:=fun π=>a46 π hfl
 have hcall:=fun m h1 h2=>c44 (d:=false) [some (.row 4 [c.enc])] c 0 m rfl h1 h2
 generalize he:c.enc = E at hfl hrn hcall
 (refine sv Tryz.f138 ?_;simp only [Tryz.f138,gS])
 (repeat first|simp only [ww]|(apply xa;simp +decide only [go_sem];rfl;kernel_rfl))
 refine a0w (σ:=Nat) kp138_0 (fun i=>[(0,sl r (l.map a0f)),(1,.func (.func 134) [] [.ptr 0 0 0]),(7,.int .i64 l.length),(8,.int .i64 i)])
  (fun _=>[some (.row 4 [E])]) (fun i=>l.length - i) (fun i=>i ≤ l.length) 0 ?_ (Nat.zero_le _) ?_
 ·(simp +decide only [go_sem,a01,a00,hfl,hrn]<;>rfl)
 ·intro i hi
  by_cases hlt:i < l.length
  ·obtain ⟨x,hx⟩:∃ x,l[i]? = some x:=⟨_,List.getElem?_eq_getElem hlt⟩
   have c1:(i:Int) < l.length:=by omega
   have hw:=wI1 (n:=i) (by omega)
   have hcx:=hcall x (hc x (List.mem_of_getElem? hx)).1 (hc x (List.mem_of_getElem? hx)).2
   (repeat first|simp only [ww]|(apply xa;simp +decide only [go_sem,c1,hlt,hx,hw,hcx];rfl;kernel_rfl))
   refine a1w (i + 1) ?_ (by omega) (by omega)
   (simp +decide only [go_sem,a01,a00,hfl,hrn]<;>rfl)
  ·obtain rfl:i = l.length:=by omega
   have c1:¬ (l.length:Int) < l.length:=by omega
   (repeat first|simp only [ww]|(apply xa;simp +decide only [go_sem,c1];rfl;kernel_rfl))
   (apply f6w;simp +decide only [go_sem,hrn]<;>rfl)
theorem b9k (r:Rep) (l:List Nat) (c:Cir) (hl:l.length < 1000000) (hc:∀ m ∈ l,m < c.nodes.length ∧ a0o c.nodes m = 12) :
 f7x L.env Mf 124 [sl r (l.map a0f),.func (.func 134) [] [.ptr 0 0 0]] [some (.row 4 [c.enc])] = some (.bool false,[some (.row 4 [c.enc])]):=by
 have h:=a2g (E:=L.env) (draw:=false) (call:=f7x L.env Mf) (g:=138) (fs:=[]) (cs:=[]) (ar:=[sl r (l.map a0f),.func (.func 134) [] [.ptr 0 0 0]]) (H:=[some (.row 4 [c.enc])]) (b:=0) (by kernel_rfl) (by kernel_rfl) rfl rfl (a0t (a7c c)) (FlatO.row (a7c c)) (by simp only [List.nil_append,List.append_nil,a08,go_sem]) (by simp only [List.nil_append,List.append_nil,List.map_cons,List.map_nil,b5k];simp [ren,c08,a9o]) (c4f r l c hl hc) rfl
 have c1:¬ (0:Int) ≤ -1:=by omega
 have hfl:a0l c.enc = []:=by simp only [Cir.enc,go_sem]
 have hrn:∀ π,c.enc.map (ren π) = c.enc:=fun π=>a46 π hfl
 generalize he:c.enc = E at hfl hrn h
 (refine sv Tryz.f124 ?_;simp only [Tryz.f124,gS])
 (repeat first|simp only [ww]|(apply xa;simp +decide only [go_sem,h,c1];rfl;kernel_rfl))
 (apply f6w;simp +decide only [go_sem,hrn]<;>rfl)
theorem c1f {d:Bool} {H:a04} {b:Nat} (c:Cir) (r:Rep) (l:List Nat) (hl:l.length < 1000000) (hc:∀ m ∈ l,m < c.nodes.length ∧ a0o c.nodes m = 12) (hb:a02 H b = some (.row 4 [c.enc])) :
 a0e L.env d (f7x L.env Mf) (.func (.func 124) [] []) [sl r (l.map a0f),.func (.func 134) [] [.ptr b 0 0]] H = some (.bool false,H,[b]):=
 a2g (fs:=[]) (cs:=[]) (ar:=[sl r (l.map a0f),.func (.func 134) [] [.ptr b 0 0]]) (by kernel_rfl) (by kernel_rfl) rfl hb (a0t (a7c c)) (FlatO.row (a7c c)) (by simp only [List.nil_append,List.append_nil,a08,go_sem]) (by simp only [List.nil_append,List.append_nil,List.map_cons,List.map_nil,b5k];simp [ren,c08,a9o]) (b9k r l c hl hc) rfl
theorem e23 (c:Cir) (x:Nd) (hm:x.mem = 0 ∧ x.bit = 0) (hk:x.kind ≤ 14):f7x L.env Mf 135 [.agg c.enc,.agg x.enc] [] = some (.bool true,[]):=by
 have c1:¬ (x.kind:Int) = 15:=by omega
 obtain ⟨m1,m2⟩:=hm
 simp only [Cir.enc,Nd.enc,m1,m2]
 (refine sv Tryz.f135 ?_;simp only [Tryz.f135,gS])
 (repeat first|simp only [ww]|(apply xa;simp +decide only [go_sem,c1];rfl;kernel_rfl))
 (apply f6w;simp +decide only [go_sem]<;>rfl)
theorem d3b {d:Bool} (H:a04) (c:Cir) (x:Nd) (hm:x.mem = 0 ∧ x.bit = 0) (hk:x.kind ≤ 14):a0e L.env d (f7x L.env Mf) (.func (.func 135) [] []) [.agg c.enc,.agg x.enc] H = some (.bool true,H,[]):=
 a03 (by kernel_rfl) (by kernel_rfl) rfl (by simp only [a08,a10,Cir.enc,go_sem]) (e23 c x hm hk) rfl
theorem d6e (c:Cir) (h:c.wf) (x:Nd) (hx:x ∈ c.nodes):f7x L.env Mf 121 [.agg c.enc,.agg x.enc] [] = some (.int .i64 0,[]):=by
 have k14:=h.kind x hx
 have hlo:=h.lo x hx
 have hhi:=h.hi x hx
 have hlen:x.ins.length < 1000000:=by
  have:a1i x.kind ≤ 16:=by
   have hk:x.kind = 0 ∨ x.kind = 1 ∨ x.kind = 2 ∨ x.kind = 3 ∨ x.kind = 4 ∨ x.kind = 5 ∨ x.kind = 6 ∨ x.kind = 7 ∨ x.kind = 8 ∨ x.kind = 9 ∨ x.kind = 10 ∨ x.kind = 11 ∨ x.kind = 12 ∨ x.kind = 13 ∨ x.kind = 14:=by omega
   rcases hk with e|e|e|e|e|e|e|e|e|e|e|e|e|e|e<;>rw [e]<;>decide
  omega
 have hf:=fun H=>a8x (d:=false) H x.kind (by omega)
 have ho:=fun H=>a87 (d:=true) H c
 have hc:=fun H=>b9j (d:=true) H c x.c x.ins hlen (h.ins x hx)
 have hb:=fun H=>d3b (d:=false) H c x (h.mem x hx) k14
 have c1:¬ (15:Int) < x.kind:=by omega
 have c2:¬ (x.ins.length:Int) < a1h x.kind:=by omega
 have c3:¬ (a1i x.kind:Int) < x.ins.length:=by omega
 have hfl:a0l c.enc = []:=by simp only [Cir.enc,go_sem]
 by_cases hk:x.kind = 13
 ·have hoth:=fun (X:Option AObj)=>c1f (d:=false) (H:=[some (.row 4 [c.enc]),X]) (b:=0) c x.c x.ins hlen (fun m hm=>⟨h.ins x hx m hm,h.bus x hx hk m hm⟩) rfl
  have ck:decide ((x.kind:Int) = 13) = true:=decide_eq_true (by omega)
  simp only [Cir.enc,Nd.enc] at ho hc hb hoth ⊢
  (refine sv Tryz.f121 ?_;simp only [Tryz.f121,gS])
  (repeat first|simp only [ww]|(apply xa;simp +decide only [go_sem,hf,c1,c2,c3,ho,hc,hb,hoth,ck];rfl;kernel_rfl))
  (apply f6w;simp +decide only [go_sem]<;>rfl)
 ·have ck:¬ (x.kind:Int) = 13:=by omega
  simp only [Cir.enc,Nd.enc] at ho hc hb ⊢
  (refine sv Tryz.f121 ?_;simp only [Tryz.f121,gS])
  (repeat first|simp only [ww]|(apply xa;simp +decide only [go_sem,hf,c1,c2,c3,ho,hc,hb,ck];rfl;kernel_rfl))
  (apply f6w;simp +decide only [go_sem]<;>rfl)
theorem c6v {d:Bool} (H:a04) (c:Cir) (h:c.wf) (x:Nd) (hx:x ∈ c.nodes):a0e L.env d (f7x L.env Mf) (.func (.func 121) [] []) [.agg c.enc,.agg x.enc] H = some (.int .i64 0,H,[]):=
 a03 (by kernel_rfl) (by kernel_rfl) rfl (by simp only [a08,a10,Cir.enc,go_sem]) (d6e c h x hx) rfl
theorem c7r (i:Nat) (hi:i < 14):f7x L.env Mf 136 [.str (a3a i)] [] = some (.bool true,[]):=by
 have h:i = 0 ∨ i = 1 ∨ i = 2 ∨ i = 3 ∨ i = 4 ∨ i = 5 ∨ i = 6 ∨ i = 7 ∨ i = 8 ∨ i = 9 ∨ i = 10 ∨ i = 11 ∨ i = 12 ∨ i = 13:=by omega
 rcases h with rfl|rfl|rfl|rfl|rfl|rfl|rfl|rfl|rfl|rfl|rfl|rfl|rfl|rfl
 ·exact d29
 ·exact d28
 ·exact d27
 ·exact d26
 ·exact d25
 ·exact d24
 ·exact d23
 ·exact d22
 ·exact d21
 ·exact d20
 ·exact c7v
 ·exact c7u
 ·exact c7t
 ·exact c7s
theorem c15 {d:Bool} (H:a04) (i:Nat) (hi:i < 14):a0e L.env d (f7x L.env Mf) (.func (.func 136) [] []) [.str (a3a i)] H = some (.bool true,H,[]):=
 a03 (by kernel_rfl) (by kernel_rfl) rfl rfl (c7r i hi) rfl
def a89 (i:Nat):List AV:=(List.range i).map fun j=>.str (a3a j)
theorem c0u (i:Nat):a89 (i + 1) = a89 i ++ [.str (a3a i)]:=by unfold a89;rw [List.range_succ,List.map_append];rfl
theorem eqS (a b:List UInt8):a4n L.env 6 9 (.str a) (.str b) = some (a == b):=by kernel_rfl
theorem c73 {i j:Nat} (hi:i < 14) (hj:j < 14) (h:a3a i = a3a j):i = j:=by
 unfold a3a at h
 simp only [List.cons.injEq,and_true,true_and] at h
 have h1:=congrArg UInt8.toNat h.1
 have h2:=congrArg UInt8.toNat h.2
 simp only [UInt8.toNat_ofNat'] at h1 h2
 omega
theorem c8k (s:Nat) (hs:s < 14):∀ (l:List Nat) (b:Nat),(∀ j ∈ l,j < s) → a22 (a4n L.env 6 9) (.str (a3a s)) (l.map fun j=>.str (a3a j)) b = some none
 | [],b,_=>rfl
 | j :: l,b,h=>by
  have hne:(a3a s == a3a j) = false:=by
   rw [beq_eq_false_iff_ne]
   intro e
   have:=c73 hs (by have:=h j (by simp);omega) e
   have:=h j (by simp)
   omega
  simp only [List.map_cons,a22,eqS,hne,cond_false]
  exact c8k s hs l (b + 1) (fun j hj=>h j (by simp [hj]))
theorem c6z (i:Nat) (hi:i < 14):a22 (a4n L.env 6 9) (.str (a3a i)) (a89 i) 0 = some none:=c8k i hi _ 0 (fun j hj=>by simpa using hj)
def nmO (i:Nat):AObj:=.map (a89 i) (List.replicate i (.bool true)) (List.range i) i
theorem c6y (i:Nat) (hi:i < 14):a2w L.env (a02 [some (nmO i)]) 194 (.map 0) (.str (a3a i)) false = some (.bool false):=by
 have h:=c6z i hi
 have e:a2w L.env (a02 [some (nmO i)]) 194 (.map 0) (.str (a3a i)) false = match a22 (a4n L.env 6 9) (.str (a3a i)) (a89 i) 0 with
  | some (some j)=>match (List.replicate i (AV.bool true))[j]? with
   | some v=>some (bif false then .tuple [v,.bool true] else v)
   | none=>none
  | some none=>some (.bool false)
  | none=>none:=by kernel_rfl
 rw [e,h]
theorem c6x (i:Nat) (hi:i < 14):a1n L.env (a02 [some (nmO i)]) 194 (.map 0) (.str (a3a i)) (.bool true) = some (.set 0 (nmO (i + 1))):=by
 have h:=c6z i hi
 unfold a1n
 have e:a97 L.env (a02 [some (nmO i)]) 194 (.map 0) (.str (a3a i)) = match a22 (a4n L.env 6 9) (.str (a3a i)) (a89 i) 0 with
  | some (some j)=>match (a89 i)[j]? with
   | some k0=>bif c1j k0 (.str (a3a i)) then some (0,a89 i,List.replicate i (AV.bool true),List.range i,i,some j) else none
   | none=>none
  | some none=>some (0,a89 i,List.replicate i (AV.bool true),List.range i,i,none)
  | none=>none:=by kernel_rfl
 rw [e,h]
 simp only [nmO,c0u,List.range_succ,List.replicate_succ']
theorem c0t (i:Nat):a14 (some (nmO i)) = []:=by
 simp only [nmO,a14,a89]
 have h1:∀ l:List Nat,a0l (l.map fun j=>AV.str (a3a j)) = []:=by intro l;induction l with|nil=>rfl|cons a l ih=>simp [a0l,refs,ih]
 have h2:∀ n,a0l (List.replicate n (AV.bool true)) = []:=by intro n;induction n with|zero=>rfl|succ n ih=>simp [List.replicate_succ,a0l,refs,ih]
 rw [h1,h2];rfl
theorem d4h (π:Nat → Option Nat) (i:Nat):a11 π (nmO i) = nmO i:=by
 have h:=c0t i
 simp only [nmO,a14,List.append_eq_nil_iff] at h
 simp only [nmO,a11,a46 π h.1,a46 π h.2]
theorem d1e (c:Cir) (h:c.wf):f7x L.env Mf 122 [.agg c.enc] [] = some (.int .i64 0,[]):=by
 have hn:=h.len
 have hnm:c.names.length = c.nodes.length:=by rw [h.names];simp
 simp only [Cir.enc]
 (refine sv Tryz.f122 ?_;simp only [Tryz.f122,gS])
 (repeat first|simp only [ww]|(apply xa;simp +decide only [go_sem];rfl;kernel_rfl))
 have e0:AObj.map [] [] [] 0 = nmO 0:=by rfl
 refine a0w (σ:=Nat) kp122_0 (fun i=>[(3,.map 0),(8,sl c.mc (c.names.map a1r)),(9,.int .i64 c.names.length),(10,.int .i64 i)])
  (fun i=>[some (nmO i)]) (fun i=>c.names.length - i) (fun i=>i ≤ c.names.length) 0 ?_ (Nat.zero_le _) ?_
 ·rw [e0]
  (simp +decide only [go_sem,a01,a00,c0t,d4h]<;>rfl)
 ·intro i hi
  by_cases hlt:i < c.names.length
  ·have hx:c.names[i]? = some (a3a i):=by rw [h.names,List.getElem?_map,List.getElem?_range (by omega)];rfl
   have c1:(i:Int) < c.names.length:=by omega
   have hw:=wI1 (n:=i) (by omega)
   have hcn:=fun H=>c15 (d:=false) H i (by omega)
   have hlk:=c6y i (by omega)
   have hup:=c6x i (by omega)
   (repeat first|simp only [ww]|(apply xa;simp +decide only [go_sem,c1,hlt,hx,hw,hcn,hlk,hup];rfl;kernel_rfl))
   refine a1w (i + 1) ?_ (by omega) (by omega)
   (simp +decide only [go_sem,a01,a00,c0t,d4h]<;>rfl)
  ·obtain rfl:i = c.names.length:=by omega
   have c1:¬ (c.names.length:Int) < c.names.length:=by omega
   (repeat first|simp only [ww]|(apply xa;simp +decide only [go_sem,c1];rfl;kernel_rfl))
   (apply f6w;simp +decide only [go_sem]<;>rfl)
open Go.Proofs Go.Ax Go.Pc
set_option maxRecDepth 100000
theorem a47 (c:Cir):a0l [.agg c.enc] = []:=by simp only [a08,a10,Cir.enc,go_sem]
theorem c46 {d:Bool} (H:a04) (c:Cir) (h:c.wf):a0e L.env d (f7x L.env Mf) (.func (.func 122) [] []) [.agg c.enc] H = some (.int .i64 0,H,[]):=
 a03 (by kernel_rfl) (by kernel_rfl) rfl (a47 c) (d1e c h) rfl
theorem d0w (c:Cir) (h:c.wf):f7x L.env Mf 101 [.agg c.enc] [] = some (.int .i64 0,[]):=by
 have hn:=h.len
 have hnm:c.names.length = c.nodes.length:=by rw [h.names];simp
 have hol:=h.outl
 have c1:¬ (16384:Int) < c.nodes.length:=by omega
 have c2:¬ (16384:Int) < c.outs.length:=by omega
 have hno:=fun H x hx=>c6v (d:=false) H c h x hx
 have hna:=fun H=>c46 (d:=false) H c h
 have hou:=fun H=>a87 (d:=true) H c
 have hcf:=fun H=>b9j (d:=true) H c c.oc c.outs (by omega) h.outs
 have hlen:c.enc.length = 4:=rfl
 simp only [Cir.enc] at hno hna hou hcf ⊢
 (refine sv Tryz.f101 ?_;simp only [Tryz.f101,gS])
 (repeat first|simp only [ww]|(apply xa;simp +decide only [go_sem,c1,c2,hnm];rfl;kernel_rfl))
 refine a0w (σ:=Nat) kp101_1 (fun i=>[(1,.ptr 0 0 0),(36,sl c.nc (c.nodes.map Nd.enc)),(37,.int .i64 c.nodes.length),(38,.int .i64 i)])
  (fun i=>[some (.row 4 [[sl c.nc (c.nodes.map Nd.enc),sl c.mc (c.names.map a1r),.nilslice,sl c.oc (c.outs.map a0f)]])]) (fun i=>c.nodes.length - i) (fun i=>i ≤ c.nodes.length) 0 ?_ (Nat.zero_le _) ?_
 ·(simp +decide only [go_sem,a01,a00]<;>rfl)
 ·intro i hi
  by_cases hlt:i < c.nodes.length
  ·obtain ⟨x,hx⟩:∃ x,c.nodes[i]? = some x:=⟨_,List.getElem?_eq_getElem hlt⟩
   have c1:(i:Int) < c.nodes.length:=by omega
   have hw:=wI1 (n:=i) (by omega)
   have hcx:=fun H=>hno H x (List.mem_of_getElem? hx)
   simp only [Nd.enc] at hcx
   (repeat first|simp only [ww]|(apply xa;simp +decide only [go_sem,c1,hlt,hx,hw,hcx];rfl;kernel_rfl))
   refine a1w (i + 1) ?_ (by omega) (by omega)
   (simp +decide only [go_sem,a01,a00]<;>rfl)
  ·obtain rfl:i = c.nodes.length:=by omega
   have c1:¬ (c.nodes.length:Int) < c.nodes.length:=by omega
   (repeat first|simp only [ww]|(apply xa;simp +decide only [go_sem,c1,hna];rfl;kernel_rfl))
   refine a0w (σ:=Nat) kp101_3 (fun i=>[(1,.ptr 0 0 0),(55,.nilslice),(56,.int .i64 0),(57,.int .i64 0)])
    (fun i=>[some (.row 4 [[sl c.nc (c.nodes.map Nd.enc),sl c.mc (c.names.map a1r),.nilslice,sl c.oc (c.outs.map a0f)]])]) (fun i=>0) (fun i=>True) 0 ?_ trivial ?_
   ·(simp +decide only [go_sem,a01,a00]<;>rfl)
   ·intro i _
    (repeat first|simp only [ww]|(apply xa;simp +decide only [go_sem,hou,hcf];rfl;kernel_rfl))
    (apply f6w;simp +decide only [go_sem]<;>rfl)
theorem c3q {d:Bool} (H:a04) (c:Cir) (h:c.wf):a0e L.env d (f7x L.env Mf) (.func (.func 101) [] []) [.agg c.enc] H = some (.int .i64 0,H,[]):=
 a03 (by kernel_rfl) (by kernel_rfl) rfl (a47 c) (d0w c h) rfl
theorem b4c {d:Bool} (H:a04) (k:Nat) (hk:k < 256):a0e L.env d (f7x L.env Mf) (.func (.func 85) [] []) [.int .u8 k] H = some (.bool (a1o k),H,[]):=
 a03 (by kernel_rfl) (by kernel_rfl) rfl rfl (d7p k hk) rfl
end Go.ZInst
