/- Part of a proof. No condition. -/
import Derived.Test.YtllalbnibhofiaaGreatDoorZWo
import Derived.Test.YtllalbnibhofiaaGreatDoorZGa
import Derived.Test.YtllalbnibhofiaaGreatDoorPcB
import Derived.Test.YtllalbnibhofiaaGreatDoorAxE
set_option linter.unusedSimpArgs false
set_option linter.unusedVariables false
namespace Go.ZInst
open Go.Proofs Go.Ax Go.Pc
set_option maxRecDepth 100000
open Go.Proofs Go.Ax Go.Pc
set_option maxRecDepth 100000
theorem place_ok (w:W) (n v:Nat) (hn:n < 64) (hv:v < 256):sem L.env Mf 51 [.agg w.enc,.int .i64 n,.int .u8 v] [] = some (.agg (wPlace w n v).enc,[]):=by
 have hc:=fun H=>fill_call (d:=false) H v hv
 simp only [go_sem] at hc
 have h0:¬ (n:Int) < 0:=by omega
 (refine sem_wp (code:=(Tryz.f51.body).getD .skip) (N:=32) (results:=[.cell 6 111]) (by kernel_rfl) (no _ (by rfl)) rfl rfl ?_;simp only [Tryz.f51,Option.getD_some])
 (repeat first|simp only [ww]|((with_reducible first|apply xs|apply xI);(·simp +decide only [go_sem,hc,h0];rfl);with_reducible first|apply xT|apply xF|(·kernel_rfl)))
 (first|with_reducible apply fq_r|with_reducible apply fq_n);(·simp +decide only [go_sem,wPlace,bitW]<;>rfl);(·simp +decide only [go_sem,wPlace,bitW]<;>rfl)
theorem place_call {d:Bool} (H:Heap) (w:W) (n v:Nat) (hn:n < 64) (hv:v < 256):callV L.env d (sem L.env Mf) (.func (.func 51) [] []) [.agg w.enc,.int .i64 n,.int .u8 v] H = some (.agg (wPlace w n v).enc,H,[]):=
 callV_flat (by kernel_rfl) (by kernel_rfl) rfl rfl (place_ok w n v hn hv) rfl
theorem comb_ok (k:Nat) (hk:k < 256):sem L.env Mf 85 [.int .u8 k] [] = some (.bool (isComb k),[]):=by
 by_cases h1:1 ≤ k
 ·have c1:(1:Int) ≤ k:=by omega
  by_cases h2:k ≤ 13
  ·have c2:(k:Int) ≤ 13:=by omega
   rw [show isComb k = true by simp [isComb,h1,h2]]
   (refine sem_wp (code:=(Tryz.f85.body).getD .skip) (N:=9) (results:=[.tmp 2]) (by kernel_rfl) (no _ (by rfl)) rfl rfl ?_;simp only [Tryz.f85,Option.getD_some])
   (repeat first|simp only [ww]|((with_reducible first|apply xs|apply xI);(·simp +decide only [go_sem,c1,c2];rfl);with_reducible first|apply xT|apply xF|(·kernel_rfl)))
   (first|with_reducible apply fq_r|with_reducible apply fq_n);(·simp +decide only [go_sem]<;>rfl);(·simp +decide only [go_sem]<;>rfl)
  ·have c2:¬ (k:Int) ≤ 13:=by omega
   rw [show isComb k = false by simp [isComb,h2]]
   (refine sem_wp (code:=(Tryz.f85.body).getD .skip) (N:=9) (results:=[.tmp 2]) (by kernel_rfl) (no _ (by rfl)) rfl rfl ?_;simp only [Tryz.f85,Option.getD_some])
   (repeat first|simp only [ww]|((with_reducible first|apply xs|apply xI);(·simp +decide only [go_sem,c1,c2];rfl);with_reducible first|apply xT|apply xF|(·kernel_rfl)))
   (first|with_reducible apply fq_r|with_reducible apply fq_n);(·simp +decide only [go_sem]<;>rfl);(·simp +decide only [go_sem]<;>rfl)
 ·have c1:¬ (1:Int) ≤ k:=by omega
  rw [show isComb k = false by simp [isComb,h1]]
  (refine sem_wp (code:=(Tryz.f85.body).getD .skip) (N:=9) (results:=[.tmp 2]) (by kernel_rfl) (no _ (by rfl)) rfl rfl ?_;simp only [Tryz.f85,Option.getD_some])
  (repeat first|simp only [ww]|((with_reducible first|apply xs|apply xI);(·simp +decide only [go_sem,c1];rfl);with_reducible first|apply xT|apply xF|(·kernel_rfl)))
  (first|with_reducible apply fq_r|with_reducible apply fq_n);(·simp +decide only [go_sem]<;>rfl);(·simp +decide only [go_sem]<;>rfl)
open Go.Proofs Go.Ax Go.Pc
set_option maxRecDepth 100000
theorem eqW (a b x y:BitVec 64) (c:Bool):abin L.env .eql 111 (.agg [u64 a,u64 b]) (.agg [u64 x,u64 y]) c = some (.bool (decide (a = x) && decide (b = y))):=by
 have h:abin L.env .eql 111 (.agg [u64 a,u64 b]) (.agg [u64 x,u64 y]) c = some (.bool (((a.toNat:Int) == (x.toNat:Int)) && (((b.toNat:Int) == (y.toNat:Int)) && true))):=by kernel_rfl
 rw [h]
 congr 2
 have e:∀ p q:BitVec 64,((p.toNat:Int) == (q.toNat:Int)) = decide (p = q):=by
  intro p q
  rw [Bool.eq_iff_iff,beq_iff_eq,decide_eq_true_eq]
  exact ⟨fun h=>BitVec.eq_of_toNat_eq (by omega),fun h=>by rw [h]⟩
 rw [e,e,Bool.and_true]
def atW (w:W) (j:Nat):Nat:=match w.one.getLsbD j,w.zero.getLsbD j with
 | false,true=>0
 | true,false=>1
 | false,false=>2
 | true,true=>3
theorem bit_and_eq (w:BitVec 64) (j:Nat):w >>> j &&& BitVec.ofInt 64 1 = if w.getLsbD j then 1#64 else 0#64:=by
 have h:=bit_and1 w j
 have e:BitVec.ofInt 64 1 = 1#64:=by decide
 rw [e] at h ⊢
 split
 ·rename_i hb;rw [hb] at h;exact of_decide_eq_true h
 ·rename_i hb
  have hb:w.getLsbD j = false:=by simpa using hb
  apply BitVec.eq_of_getLsbD_eq
  intro i hi
  cases i with
  | zero=>simp [hb]
  | succ i=>simp [BitVec.getLsbD_one]
theorem atW_ok (w:W) (j:Nat) (hj:j < 64):sem L.env Mf 50 [.agg w.enc,.int .i64 j] [] = some (.int .u8 (atW w j:Nat),[]):=by
 have c0:¬ (j:Int) < 0:=by omega
 have c1:¬ (64:Int) ≤ j:=by omega
 have ho:=bit_and_eq w.one j
 have hz:=bit_and_eq w.zero j
 have e0:BitVec.ofInt 64 0 = 0#64:=by decide
 have e1:BitVec.ofInt 64 1 = 1#64:=by decide
 unfold atW
 (refine sem_wp (code:=(Tryz.f50.body).getD .skip) (N:=34) (results:=[.tmp 4]) (by kernel_rfl) (no _ (by rfl)) rfl rfl ?_;simp only [Tryz.f50,Option.getD_some])
 (repeat first|simp only [ww]|((with_reducible first|apply xs|apply xI);(·simp +decide only [go_sem,c0,c1,ho,hz];rfl);with_reducible first|apply xT|apply xF|(·kernel_rfl)))
 generalize w.one.getLsbD j = a
 generalize w.zero.getLsbD j = b
 refine xp_loop3 (σ:=Nat) kp50_0 (fun i=>[(5,.ptr 0 0 0),(24,.int .u8 i)])
  (fun _=>[some (.row 2 [[u64 (if a then 1#64 else 0#64),u64 (if b then 1#64 else 0#64)]])]) (fun i=>3 - i) (fun i=>i ≤ 3 ∧ (a = false ∧ b = true → i = 0) ∧ (a = true ∧ b = false → i ≤ 1) ∧ (a = false ∧ b = false → i ≤ 2)) 0 ?_ (by simp) ?_
 ·(simp +decide only [go_sem,gcD_eq,gcIds_eq]<;>rfl)
 ·rintro i ⟨hi,h0,h1,h2⟩
  have hh:i = 0 ∨ i = 1 ∨ i = 2 ∨ i = 3:=by omega
  cases a<;>cases b<;>rcases hh with rfl|rfl|rfl|rfl<;>first|(exfalso;simp at h0 h1 h2;done)|skip
  all_goals first
   | ((repeat first|simp only [ww]|((with_reducible first|apply xs|apply xI);(·simp +decide only [go_sem,eqW,e0,e1];rfl);with_reducible first|apply xT|apply xF|(·kernel_rfl)));(first|with_reducible apply fq_r|with_reducible apply fq_n);(·simp +decide only [go_sem]<;>rfl);(·simp +decide only [go_sem]<;>rfl);done)
   | ((repeat first|simp only [ww]|((with_reducible first|apply xs|apply xI);(·simp +decide only [go_sem,eqW,e0,e1];rfl);with_reducible first|apply xT|apply xF|(·kernel_rfl)));refine lp_n 1 ?_ (by omega) (by simp);(simp +decide only [go_sem,gcD_eq,gcIds_eq]<;>rfl);done)
   | ((repeat first|simp only [ww]|((with_reducible first|apply xs|apply xI);(·simp +decide only [go_sem,eqW,e0,e1];rfl);with_reducible first|apply xT|apply xF|(·kernel_rfl)));refine lp_n 2 ?_ (by omega) (by simp);(simp +decide only [go_sem,gcD_eq,gcIds_eq]<;>rfl);done)
   | ((repeat first|simp only [ww]|((with_reducible first|apply xs|apply xI);(·simp +decide only [go_sem,eqW,e0,e1];rfl);with_reducible first|apply xT|apply xF|(·kernel_rfl)));refine lp_n 3 ?_ (by omega) (by simp);(simp +decide only [go_sem,gcD_eq,gcIds_eq]<;>rfl);done)
open Go.Proofs Go.Ax Go.Pc
set_option maxRecDepth 100000
theorem idxk_ok (k v:Nat):sem L.env Mf 128 [.slice 0 0 1 (some 1),.int .u8 v] [some (.row 1 [[.int .u8 k]])] = some (.int .i64 (if v = k then 0 else -1),[some (.row 1 [[.int .u8 k]])]):=by
 (refine sem_wp (code:=(Tryz.f128.body).getD .skip) (N:=19) (results:=[.tmp 4]) (by kernel_rfl) (no _ (by rfl)) rfl rfl ?_;simp only [Tryz.f128,Option.getD_some])
 (repeat first|simp only [ww]|((with_reducible first|apply xs|apply xI);(·simp +decide only [go_sem];rfl);with_reducible first|apply xT|apply xF|(·kernel_rfl)))
 refine xp_loop3 (σ:=Nat) kp128_0 (fun i=>[(0,.slice 0 0 1 (some 1)),(1,.int .u8 v),(7,.int .i64 1),(8,.int .i64 i)])
  (fun _=>[some (.row 1 [[.int .u8 k]])]) (fun i=>1 - i) (fun i=>i ≤ 1 ∧ (i = 1 → v ≠ k)) 0 ?_ (by simp) ?_
 ·(simp +decide only [go_sem,gcD_eq,gcIds_eq]<;>rfl)
 ·rintro i ⟨hi,hne⟩
  have hh:i = 0 ∨ i = 1:=by omega
  rcases hh with rfl|rfl
  ·by_cases h:v = k
   ·subst h
    (repeat first|simp only [ww]|((with_reducible first|apply xs|apply xI);(·simp +decide only [go_sem,if_pos];rfl);with_reducible first|apply xT|apply xF|(·kernel_rfl)))
    (first|with_reducible apply fq_r|with_reducible apply fq_n);(·simp +decide only [go_sem,if_pos]<;>rfl);(·simp +decide only [go_sem,if_pos]<;>rfl)
   ·have c:¬ (v:Int) = k:=by omega
    (repeat first|simp only [ww]|((with_reducible first|apply xs|apply xI);(·simp +decide only [go_sem,c];rfl);with_reducible first|apply xT|apply xF|(·kernel_rfl)))
    refine lp_n 1 ?_ (by omega) (by simp [h])
    (simp +decide only [go_sem,gcD_eq,gcIds_eq]<;>rfl)
  ·have h:=hne rfl
   have c:¬ (v:Int) = k:=by omega
   rw [if_neg h]
   (repeat first|simp only [ww]|((with_reducible first|apply xs|apply xI);(·simp +decide only [go_sem,c];rfl);with_reducible first|apply xT|apply xF|(·kernel_rfl)))
   (first|with_reducible apply fq_r|with_reducible apply fq_n);(·simp +decide only [go_sem]<;>rfl);(·simp +decide only [go_sem]<;>rfl)
theorem contk_ok (k v:Nat):sem L.env Mf 105 [.slice 0 0 1 (some 1),.int .u8 v] [some (.row 1 [[.int .u8 k]])] = some (.bool (decide (v = k)),[some (.row 1 [[.int .u8 k]])]):=by
 have hc:callV L.env false (sem L.env Mf) (.func (.func 128) [] []) [.slice 0 0 1 (some 1),.int .u8 v] [some (.row 1 [[.int .u8 k]])] = some (.int .i64 (if v = k then 0 else -1),[some (.row 1 [[.int .u8 k]])],[0]):=
  callV_one (by kernel_rfl) (by kernel_rfl) rfl rfl rfl (FlatO.row (FlatR.cons rfl FlatR.nil)) rfl rfl (idxk_ok k v) rfl
 by_cases h:v = k
 ·rw [if_pos h] at hc
  (refine sem_wp (code:=(Tryz.f105.body).getD .skip) (N:=9) (results:=[.tmp 4]) (by kernel_rfl) (no _ (by rfl)) rfl rfl ?_;simp only [Tryz.f105,Option.getD_some])
  (repeat first|simp only [ww]|((with_reducible first|apply xs|apply xI);(·simp +decide only [go_sem,hc];rfl);with_reducible first|apply xT|apply xF|(·kernel_rfl)))
  (first|with_reducible apply fq_r|with_reducible apply fq_n);(·simp +decide only [go_sem,h]<;>rfl);(·simp +decide only [go_sem,h]<;>rfl)
 ·rw [if_neg h] at hc
  (refine sem_wp (code:=(Tryz.f105.body).getD .skip) (N:=9) (results:=[.tmp 4]) (by kernel_rfl) (no _ (by rfl)) rfl rfl ?_;simp only [Tryz.f105,Option.getD_some])
  (repeat first|simp only [ww]|((with_reducible first|apply xs|apply xI);(·simp +decide only [go_sem,hc];rfl);with_reducible first|apply xT|apply xF|(·kernel_rfl)))
  (first|with_reducible apply fq_r|with_reducible apply fq_n);(·simp +decide only [go_sem,h]<;>rfl);(·simp +decide only [go_sem,h]<;>rfl)
theorem contk_call {d:Bool} (k v:Nat) (X:Heap):callV L.env d (sem L.env Mf) (.func (.func 105) [] []) [.slice 0 0 1 (some 1),.int .u8 v] (some (.row 1 [[.int .u8 k]]) :: X) = some (.bool (decide (v = k)),some (.row 1 [[.int .u8 k]]) :: X,[0]):=
 callV_one (by kernel_rfl) (by kernel_rfl) rfl rfl rfl (FlatO.row (FlatR.cons rfl FlatR.nil)) rfl rfl (contk_ok k v) rfl
/-- The nodes of a kind among the first i. -/
def kindTo (nodes:List Nd) (k i:Nat):List Nat:=(List.range i).filter fun j=>decide (kindAt nodes j = k)
theorem kindTo_succ (nodes:List Nd) (k i:Nat):kindTo nodes k (i + 1) = if kindAt nodes i = k then kindTo nodes k i ++ [i] else kindTo nodes k i:=by
 unfold kindTo
 rw [List.range_succ,List.filter_append]
 by_cases h:kindAt nodes i = k<;>simp [h]
theorem kindTo_le (nodes:List Nd) (k i:Nat):(kindTo nodes k i).length ≤ i:=Nat.le_trans (List.length_filter_le _ _) (by simp)
def kinds (nodes:List Nd) (k:Nat):List Nat:=kindTo nodes k nodes.length
/-- A list without spare room, nil if it is empty. -/
def idxV (l:List Nat):AV:=sl (match l with|[]=>none|a :: r=>some (some (r.length + 1))) (l.map intR)
theorem idxV_nil:idxV [] = .nilslice:=by rfl
theorem idxV_cons (a:Nat) (r:List Nat):idxV (a :: r) = .islice ((a :: r).map intR) (some (r.length + 1)):=by rfl
theorem kindAt_get {nodes:List Nd} {i:Nat} {x:Nd} (h:nodes[i]? = some x):kindAt nodes i = x.kind:=by simp [kindAt,h]
theorem flat_i (l:List Nat):(l.map intR).flatMap refsL = []:=refs_flatR (FlatR.map fun _=>rfl)
theorem ren_i (π:Nat → Option Nat) (l:List Nat):(l.map intR).map (fun r=>r.map (ren π)) = l.map intR:=renR_flat π (FlatR.map fun _=>rfl)
theorem flatInt' (l:List Nat):FlatR (l.map intR):=FlatR.map fun _=>rfl
theorem frz_i {m:Nat} {d:AV → Option AV} (l:List Nat):frzR m d (l.map intR) = some (l.map intR):=frzR_flat m d (FlatR.map fun _=>rfl)
theorem clip_nil:sem L.env Mf 106 [.nilslice] [] = some (.nilslice,[]):=by
 (refine sem_wp (code:=(Tryz.f106.body).getD .skip) (N:=9) (results:=[.tmp 2]) (by kernel_rfl) (no _ (by rfl)) rfl rfl ?_;simp only [Tryz.f106,Option.getD_some])
 (repeat first|simp only [ww]|((with_reducible first|apply xs|apply xI);(·simp +decide only [go_sem];rfl);with_reducible first|apply xT|apply xF|(·kernel_rfl)))
 (first|with_reducible apply fq_r|with_reducible apply fq_n);(·simp +decide only [go_sem]<;>rfl);(·simp +decide only [go_sem]<;>rfl)
theorem clip_ok (n:Nat) (rows:List (List AV)) (hf:FlatR rows):sem L.env Mf 106 [.slice 0 0 n none] [some (.row 1 rows)] = some (.slice 0 0 n (some n),[some (.row 1 rows)]):=by
 have h1:=fun π=>renR_flat π hf
 (refine sem_wp (code:=(Tryz.f106.body).getD .skip) (N:=9) (results:=[.tmp 2]) (by kernel_rfl) (no _ (by rfl)) rfl rfl ?_;simp only [Tryz.f106,Option.getD_some])
 (repeat first|simp only [ww]|((with_reducible first|apply xs|apply xI);(·simp +decide only [go_sem];rfl);with_reducible first|apply xT|apply xF|(·kernel_rfl)))
 (first|with_reducible apply fq_r|with_reducible apply fq_n);(·simp +decide only [go_sem,h1]<;>rfl);(·simp +decide only [go_sem,h1]<;>rfl)
theorem clip_call {d:Bool} {H:Heap} {b n:Nat} {rows:List (List AV)} (hf:FlatR rows) (hb:HeapF H b = some (.row 1 rows)):callV L.env d (sem L.env Mf) (.func (.func 106) [] []) [.slice b 0 n none] H = some (.slice b 0 n (some n),H,[b]):=by
 have h:=callV_one' (E:=L.env) (draw:=d) (call:=sem L.env Mf) (g:=106) (fs:=[]) (cs:=[]) (ar:=[.slice b 0 n none]) (H:=H) (b:=b) (by kernel_rfl) (by kernel_rfl) rfl hb (refsO_flat hf) (FlatO.row hf) rfl (args':=[AV.slice 0 0 n none]) (by simp only [List.nil_append,List.append_nil,List.map_cons,List.map_nil,ren_slice1]) (clip_ok n rows hf) (FlatO.row hf) (back_slice1 b 0 _ n _)
 rw [set_same hb] at h
 exact h
theorem nof_ok (c:Cir) (k:Nat) (hl:c.nodes.length < 1000000):sem L.env Mf 71 [.agg c.enc,.slice 0 0 1 (some 1)] [some (.row 1 [[.int .u8 k]])] = some (idxV (kinds c.nodes k),[some (.row 1 [[.int .u8 k]])]):=by
 have hck:=fun v X=>contk_call (d:=false) k v X
 (refine sem_wp (code:=(Tryz.f71.body).getD .skip) (N:=27) (results:=[.tmp 4]) (by kernel_rfl) (no _ (by rfl)) rfl rfl ?_;simp only [Tryz.f71,Option.getD_some])
 (repeat first|simp only [ww]|((with_reducible first|apply xs|apply xI);(·simp +decide only [go_sem,Cir.enc];rfl);with_reducible first|apply xT|apply xF|(·kernel_rfl)))
 refine xp_loop3 (σ:=Nat) kp71_0 (fun i=>[(1,.slice 0 0 1 (some 1)),(5,grV 1 ((kindTo c.nodes k i).map intR)),(9,sl c.nc (c.nodes.map Nd.enc)),(10,.int .i64 c.nodes.length),(11,.int .i64 i)])
  (fun i=>some (.row 1 [[.int .u8 k]]) :: grH 1 ((kindTo c.nodes k i).map intR)) (fun i=>c.nodes.length - i) (fun i=>i ≤ c.nodes.length) 0 ?_ (Nat.zero_le _) ?_
 ·have e:kindTo c.nodes k 0 = []:=rfl
  (simp +decide only [go_sem,gcD_eq,gcIds_eq,e,List.map_nil,grV_nil,grH_nil]<;>rfl)
 ·intro i hi
  by_cases hlt:i < c.nodes.length
  ·obtain ⟨x,hx⟩:∃ x,c.nodes[i]? = some x:=⟨_,List.getElem?_eq_getElem hlt⟩
   have c1:(i:Int) < c.nodes.length:=by omega
   have hw:=wI1 (n:=i) (by omega)
   have hs:=kindTo_succ c.nodes k i
   rw [kindAt_get hx] at hs
   have hle:=kindTo_le c.nodes k i
   have hrm:(kindTo c.nodes k i).length + 1 ≤ 1000000000:=by omega
   by_cases hk:x.kind = k
   ·rw [if_pos hk] at hs
    generalize kindTo c.nodes k i = l at hs hle hrm
    cases l with
    | nil=>
     (repeat first|simp only [ww]|((with_reducible first|apply xs|apply xI);(·simp +decide only [go_sem,c1,hlt,hx,hw,hck,hk,List.map_nil,grV_nil,grH_nil];rfl);with_reducible first|apply xT|apply xF|(·kernel_rfl)))
     refine lp_n (i + 1) ?_ (by omega) (by omega)
     rw [hs]
     (simp +decide only [go_sem,gcD_eq,gcIds_eq,List.map_nil,List.nil_append,List.map_cons,grV_cons,grH_cons,List.length_nil]<;>rfl)
    | cons a r=>
     simp only [List.length_cons] at hrm
     (repeat first|simp only [ww]|((with_reducible first|apply xs|apply xI);(·simp +decide only [go_sem,c1,hlt,hx,hw,hck,hk,List.map_cons,grV_cons,grH_cons,hrm,List.length_cons];rfl);with_reducible first|apply xT|apply xF|(·kernel_rfl)))
     refine lp_n (i + 1) ?_ (by omega) (by omega)
     rw [hs]
     (simp +decide only [go_sem,gcD_eq,gcIds_eq,List.cons_append,List.map_cons,grV_cons,grH_cons,flat_i,ren_i,List.length_cons]<;>rfl)
   ·rw [if_neg hk] at hs
    have hk':¬ (x.kind:Int) = k:=by omega
    generalize kindTo c.nodes k i = l at hs hle hrm
    cases l with
    | nil=>
     (repeat first|simp only [ww]|((with_reducible first|apply xs|apply xI);(·simp +decide only [go_sem,c1,hlt,hx,hw,hck,hk,List.map_nil,grV_nil,grH_nil];rfl);with_reducible first|apply xT|apply xF|(·kernel_rfl)))
     refine lp_n (i + 1) ?_ (by omega) (by omega)
     rw [hs]
     (simp +decide only [go_sem,gcD_eq,gcIds_eq,List.map_nil,grV_nil,grH_nil]<;>rfl)
    | cons a r=>
     (repeat first|simp only [ww]|((with_reducible first|apply xs|apply xI);(·simp +decide only [go_sem,c1,hlt,hx,hw,hck,hk,List.map_cons,grV_cons,grH_cons];rfl);with_reducible first|apply xT|apply xF|(·kernel_rfl)))
     refine lp_n (i + 1) ?_ (by omega) (by omega)
     rw [hs]
     (simp +decide only [go_sem,gcD_eq,gcIds_eq,List.map_cons,grV_cons,grH_cons,flat_i,ren_i]<;>rfl)
  ·obtain rfl:i = c.nodes.length:=by omega
   have c1:¬ (c.nodes.length:Int) < c.nodes.length:=by omega
   unfold kinds
   generalize kindTo c.nodes k c.nodes.length = l
   cases l with
   | nil=>
    have hcl:=fun H=>callV_flat (E:=L.env) (draw:=false) (call:=sem L.env Mf) (g:=106) (fs:=[]) (cs:=[]) (ar:=[.nilslice]) (H:=H) (by kernel_rfl) (by kernel_rfl) rfl rfl clip_nil rfl
    (repeat first|simp only [ww]|((with_reducible first|apply xs|apply xI);(·simp +decide only [go_sem,c1,List.map_nil,grV_nil,grH_nil,hcl];rfl);with_reducible first|apply xT|apply xF|(·kernel_rfl)))
    (first|with_reducible apply fq_r|with_reducible apply fq_n);(·simp +decide only [go_sem,idxV_nil]<;>rfl);(·simp +decide only [go_sem,idxV_nil]<;>rfl)
   | cons a r=>
    have hcl:=clip_call (d:=false) (H:=[some (.row 1 [[.int .u8 k]]),some (.row 1 ((a :: r).map intR))]) (b:=1) (n:=r.length + 1) (flatInt' _) rfl
    simp only [List.map_cons,go_sem] at hcl
    (repeat first|simp only [ww]|((with_reducible first|apply xs|apply xI);(·simp +decide only [go_sem,c1,List.map_cons,grV_cons,grH_cons,List.length_map,hcl];rfl);with_reducible first|apply xT|apply xF|(·kernel_rfl)))
    (first|with_reducible apply fq_r|with_reducible apply fq_n);(·simp +decide only [go_sem,idxV_cons,List.map_cons,frz_i,List.length_cons]<;>rfl);(·simp +decide only [go_sem,idxV_cons,List.map_cons,frz_i,List.length_cons]<;>rfl)
theorem ren_cir (π:Nat → Option Nat) (c:Cir):ren π (.agg c.enc) = .agg c.enc:=ren_flat π _ (by simp only [refs_agg,Cir.enc,go_sem])
theorem refs_idxV (l:List Nat):refs (idxV l) = []:=refs_sl _ _
theorem nof_call {d:Bool} {H:Heap} {b:Nat} (c:Cir) {k:Nat} {n:Int} (hn:n = k) (hl:c.nodes.length < 1000000) (hb:HeapF H b = some (.row 1 [[.int .u8 n]])) :
 callV L.env d (sem L.env Mf) (.func (.func 71) [] []) [.agg c.enc,.slice b 0 1 (some 1)] H = some (idxV (kinds c.nodes k),H,[b]):=by
 subst hn
 exact callV_one (E:=L.env) (draw:=d) (call:=sem L.env Mf) (g:=71) (fs:=[]) (cs:=[]) (ar:=[.agg c.enc,.slice b 0 1 (some 1)]) (H:=H) (b:=b) (by kernel_rfl) (by kernel_rfl) rfl hb rfl (FlatO.row (FlatR.cons rfl FlatR.nil)) (by simp only [List.nil_append,List.append_nil,refsL_cons,refs_agg,Cir.enc,go_sem]) (args':=[.agg c.enc,.slice 0 0 1 (some 1)]) (by simp only [List.nil_append,List.append_nil,List.map_cons,List.map_nil,ren_slice1,ren_cir]) (nof_ok c k hl) (refs_idxV _)
theorem idxV_sl (l:List Nat):∃ r,idxV l = sl r (l.map intR):=⟨_,rfl⟩
theorem inputs_ok (c:Cir) (hl:c.nodes.length < 1000000):sem L.env Mf 37 [.agg c.enc] [] = some (idxV (kinds c.nodes 0),[]):=by
 have hc:=fun X=>nof_call (d:=false) (H:=[X,some (.row 1 [[.int .u8 0]])]) (b:=1) c (k:=0) rfl hl rfl
 obtain ⟨r,hr⟩:=idxV_sl (kinds c.nodes 0)
 rw [hr] at hc ⊢
 simp only [Cir.enc] at hc ⊢
 (refine sem_wp (code:=(Tryz.f37.body).getD .skip) (N:=6) (results:=[.tmp 2]) (by kernel_rfl) (no _ (by rfl)) rfl rfl ?_;simp only [Tryz.f37,Option.getD_some])
 (repeat first|simp only [ww]|((with_reducible first|apply xs|apply xI);(·simp +decide only [go_sem,hc];rfl);with_reducible first|apply xT|apply xF|(·kernel_rfl)))
 (first|with_reducible apply fq_r|with_reducible apply fq_n);(·simp +decide only [go_sem]<;>rfl);(·simp +decide only [go_sem]<;>rfl)
theorem states_ok (c:Cir) (hl:c.nodes.length < 1000000):sem L.env Mf 38 [.agg c.enc] [] = some (idxV (kinds c.nodes 14),[]):=by
 have hc:=fun X=>nof_call (d:=false) (H:=[X,some (.row 1 [[.int .u8 14]])]) (b:=1) c (k:=14) rfl hl rfl
 obtain ⟨r,hr⟩:=idxV_sl (kinds c.nodes 14)
 rw [hr] at hc ⊢
 simp only [Cir.enc] at hc ⊢
 (refine sem_wp (code:=(Tryz.f38.body).getD .skip) (N:=6) (results:=[.tmp 2]) (by kernel_rfl) (no _ (by rfl)) rfl rfl ?_;simp only [Tryz.f38,Option.getD_some])
 (repeat first|simp only [ww]|((with_reducible first|apply xs|apply xI);(·simp +decide only [go_sem,hc];rfl);with_reducible first|apply xT|apply xF|(·kernel_rfl)))
 (first|with_reducible apply fq_r|with_reducible apply fq_n);(·simp +decide only [go_sem]<;>rfl);(·simp +decide only [go_sem]<;>rfl)
theorem inputs_call {d:Bool} (H:Heap) (c:Cir) (hl:c.nodes.length < 1000000):callV L.env d (sem L.env Mf) (.func (.func 37) [] []) [.agg c.enc] H = some (idxV (kinds c.nodes 0),H,[]):=
 callV_flat (by kernel_rfl) (by kernel_rfl) rfl (by simp only [refsL_cons,refs_agg,Cir.enc,go_sem]) (inputs_ok c hl) (refs_idxV _)
theorem states_call {d:Bool} (H:Heap) (c:Cir) (hl:c.nodes.length < 1000000):callV L.env d (sem L.env Mf) (.func (.func 38) [] []) [.agg c.enc] H = some (idxV (kinds c.nodes 14),H,[]):=
 callV_flat (by kernel_rfl) (by kernel_rfl) rfl (by simp only [refsL_cons,refs_agg,Cir.enc,go_sem]) (states_ok c hl) (refs_idxV _)
open Go.Proofs Go.Ax Go.Pc
set_option maxRecDepth 100000
/-- The function that tells indexes outside of a circuit. -/
def outV (c:Cir):AV:=.func (.func 139) [] [.iptr c.enc]
theorem refs_outV (c:Cir):refs (outV c) = []:=by rfl
theorem outside_ok (c:Cir):sem L.env Mf 125 [.agg c.enc] [] = some (outV c,[]):=by
 unfold outV
 simp only [Cir.enc]
 (refine sem_wp (code:=(Tryz.f125.body).getD .skip) (N:=4) (results:=[.tmp 2]) (by kernel_rfl) (no _ (by rfl)) rfl rfl ?_;simp only [Tryz.f125,Option.getD_some])
 (repeat first|simp only [ww]|((with_reducible first|apply xs|apply xI);(·simp +decide only [go_sem];rfl);with_reducible first|apply xT|apply xF|(·kernel_rfl)))
 (first|with_reducible apply fq_r|with_reducible apply fq_n);(·simp +decide only [go_sem]<;>rfl);(·simp +decide only [go_sem]<;>rfl)
theorem outside_call {d:Bool} (H:Heap) (c:Cir):callV L.env d (sem L.env Mf) (.func (.func 125) [] []) [.agg c.enc] H = some (outV c,H,[]):=
 callV_flat (by kernel_rfl) (by kernel_rfl) rfl (by simp only [refsL_cons,refs_agg,Cir.enc,go_sem]) (outside_ok c) rfl
theorem out1_ok (c:Cir) (m:Nat) (hm:m < c.nodes.length):sem L.env Mf 139 [.int .i64 m,.iptr c.enc] [] = some (.bool false,[]):=by
 have c1:¬ (m:Int) < 0:=by omega
 have c2:¬ (c.nodes.length:Int) ≤ m:=by omega
 simp only [Cir.enc]
 (refine sem_wp (code:=(Tryz.f139.body).getD .skip) (N:=13) (results:=[.tmp 3]) (by kernel_rfl) (no _ (by rfl)) rfl rfl ?_;simp only [Tryz.f139,Option.getD_some])
 (repeat first|simp only [ww]|((with_reducible first|apply xs|apply xI);(·simp +decide only [go_sem,c1,c2];rfl);with_reducible first|apply xT|apply xF|(·kernel_rfl)))
 (first|with_reducible apply fq_r|with_reducible apply fq_n);(·simp +decide only [go_sem]<;>rfl);(·simp +decide only [go_sem]<;>rfl)
theorem out1_call {d:Bool} (H:Heap) (c:Cir) (m:Nat) (hm:m < c.nodes.length):callV L.env d (sem L.env Mf) (outV c) [.int .i64 m] H = some (.bool false,H,[]):=
 callV_flat (by kernel_rfl) (by kernel_rfl) rfl (by simp only [refsL_cons,Cir.enc,go_sem]) (out1_ok c m hm) rfl
theorem idxf_none (r:Rep) (l:List Nat) (f:AV) (hf:refs f = []) (hl:l.length < 1000000) (hc:∀ m ∈ l,callV L.env false (sem L.env Mf) f [.int .i64 m] [] = some (.bool false,[],[])) :
 sem L.env Mf 138 [sl r (l.map intR),f] [] = some (.int .i64 (-1),[]):=by
 have hr:∀ π,ren π f = f:=fun π=>ren_flat π f hf
 (refine sem_wp (code:=(Tryz.f138.body).getD .skip) (N:=19) (results:=[.tmp 4]) (by kernel_rfl) (no _ (by rfl)) rfl rfl ?_;simp only [Tryz.f138,Option.getD_some])
 (repeat first|simp only [ww]|((with_reducible first|apply xs|apply xI);(·simp +decide only [go_sem];rfl);with_reducible first|apply xT|apply xF|(·kernel_rfl)))
 refine xp_loop3 (σ:=Nat) kp138_0 (fun i=>[(0,sl r (l.map intR)),(1,f),(7,.int .i64 l.length),(8,.int .i64 i)])
  (fun _=>[]) (fun i=>l.length - i) (fun i=>i ≤ l.length) 0 ?_ (Nat.zero_le _) ?_
 ·(simp +decide only [go_sem,gcD_eq,gcIds_eq,hf,hr]<;>rfl)
 ·intro i hi
  by_cases hlt:i < l.length
  ·obtain ⟨x,hx⟩:∃ x,l[i]? = some x:=⟨_,List.getElem?_eq_getElem hlt⟩
   have c1:(i:Int) < l.length:=by omega
   have hw:=wI1 (n:=i) (by omega)
   have hcx:=hc x (List.mem_of_getElem? hx)
   (repeat first|simp only [ww]|((with_reducible first|apply xs|apply xI);(·simp +decide only [go_sem,c1,hlt,hx,hw,hcx];rfl);with_reducible first|apply xT|apply xF|(·kernel_rfl)))
   refine lp_n (i + 1) ?_ (by omega) (by omega)
   (simp +decide only [go_sem,gcD_eq,gcIds_eq,hf,hr]<;>rfl)
  ·obtain rfl:i = l.length:=by omega
   have c1:¬ (l.length:Int) < l.length:=by omega
   (repeat first|simp only [ww]|((with_reducible first|apply xs|apply xI);(·simp +decide only [go_sem,c1];rfl);with_reducible first|apply xT|apply xF|(·kernel_rfl)))
   (first|with_reducible apply fq_r|with_reducible apply fq_n);(·simp +decide only [go_sem]<;>rfl);(·simp +decide only [go_sem]<;>rfl)
theorem contf_none (r:Rep) (l:List Nat) (f:AV) (hf:refs f = []) (hl:l.length < 1000000) (hc:∀ m ∈ l,callV L.env false (sem L.env Mf) f [.int .i64 m] [] = some (.bool false,[],[])) :
 sem L.env Mf 124 [sl r (l.map intR),f] [] = some (.bool false,[]):=by
 have h:=fun H=>callV_flat (E:=L.env) (draw:=false) (call:=sem L.env Mf) (g:=138) (fs:=[]) (cs:=[]) (ar:=[sl r (l.map intR),f]) (H:=H) (by kernel_rfl) (by kernel_rfl) rfl (by simp only [List.nil_append,List.append_nil,refsL_cons,hf,go_sem]) (idxf_none r l f hf hl hc) rfl
 have c1:¬ (0:Int) ≤ -1:=by omega
 (refine sem_wp (code:=(Tryz.f124.body).getD .skip) (N:=9) (results:=[.tmp 4]) (by kernel_rfl) (no _ (by rfl)) rfl rfl ?_;simp only [Tryz.f124,Option.getD_some])
 (repeat first|simp only [ww]|((with_reducible first|apply xs|apply xI);(·simp +decide only [go_sem,h,c1];rfl);with_reducible first|apply xT|apply xF|(·kernel_rfl)))
 (first|with_reducible apply fq_r|with_reducible apply fq_n);(·simp +decide only [go_sem]<;>rfl);(·simp +decide only [go_sem]<;>rfl)
theorem contf_out {d:Bool} (H:Heap) (c:Cir) (r:Rep) (l:List Nat) (hl:l.length < 1000000) (h:∀ m ∈ l,m < c.nodes.length) :
 callV L.env d (sem L.env Mf) (.func (.func 124) [] []) [sl r (l.map intR),outV c] H = some (.bool false,H,[]):=
 callV_flat (by kernel_rfl) (by kernel_rfl) rfl (by simp only [List.nil_append,List.append_nil,refsL_cons,refs_outV,go_sem]) (contf_none r l (outV c) rfl hl (fun m hm=>out1_call [] c m (h m hm))) rfl
/- the drivers of a bus -/
theorem other_ok (c:Cir) (m:Nat) (hm:m < c.nodes.length) (hk:kindAt c.nodes m = 12):sem L.env Mf 134 [.int .i64 m,.ptr 0 0 0] [some (.row 4 [c.enc])] = some (.bool false,[some (.row 4 [c.enc])]):=by
 obtain ⟨x,hx⟩:∃ x,c.nodes[m]? = some x:=⟨_,List.getElem?_eq_getElem hm⟩
 rw [kindAt_get hx] at hk
 simp only [Cir.enc]
 (refine sem_wp (code:=(Tryz.f134.body).getD .skip) (N:=11) (results:=[.tmp 3]) (by kernel_rfl) (no _ (by rfl)) rfl rfl ?_;simp only [Tryz.f134,Option.getD_some])
 (repeat first|simp only [ww]|((with_reducible first|apply xs|apply xI);(·simp +decide only [go_sem,hx,hk,hm];rfl);with_reducible first|apply xT|apply xF|(·kernel_rfl)))
 (first|with_reducible apply fq_r|with_reducible apply fq_n);(·simp +decide only [go_sem]<;>rfl);(·simp +decide only [go_sem]<;>rfl)
theorem flat_cirO (c:Cir):FlatR [c.enc]:=FlatR.cons (by simp only [Cir.enc,go_sem]) FlatR.nil
theorem other_call {d:Bool} (H:Heap) (c:Cir) (b m:Nat) (hb:HeapF H b = some (.row 4 [c.enc])) (hm:m < c.nodes.length) (hk:kindAt c.nodes m = 12):callV L.env d (sem L.env Mf) (.func (.func 134) [] [.ptr b 0 0]) [.int .i64 m] H = some (.bool false,H,[b]):=
 callV_one (fs:=[]) (cs:=[.ptr b 0 0]) (ar:=[.int .i64 m]) (by kernel_rfl) (by kernel_rfl) rfl hb (refsO_flat (flat_cirO c)) (FlatO.row (flat_cirO c)) rfl (args':=[.int .i64 m,.ptr 0 0 0]) (by simp [ren,piOf]) (other_ok c m hm hk) rfl
theorem idxf_other (r:Rep) (l:List Nat) (c:Cir) (hl:l.length < 1000000) (hc:∀ m ∈ l,m < c.nodes.length ∧ kindAt c.nodes m = 12) :
 sem L.env Mf 138 [sl r (l.map intR),.func (.func 134) [] [.ptr 0 0 0]] [some (.row 4 [c.enc])] = some (.int .i64 (-1),[some (.row 4 [c.enc])]):=by
 have hfl:refsL c.enc = []:=by simp only [Cir.enc,go_sem]
 have hrn:∀ π,c.enc.map (ren π) = c.enc:=fun π=>renM_flat π hfl
 have hcall:=fun m h1 h2=>other_call (d:=false) [some (.row 4 [c.enc])] c 0 m rfl h1 h2
 generalize he:c.enc = E at hfl hrn hcall
 (refine sem_wp (code:=(Tryz.f138.body).getD .skip) (N:=19) (results:=[.tmp 4]) (by kernel_rfl) (no _ (by rfl)) rfl rfl ?_;simp only [Tryz.f138,Option.getD_some])
 (repeat first|simp only [ww]|((with_reducible first|apply xs|apply xI);(·simp +decide only [go_sem];rfl);with_reducible first|apply xT|apply xF|(·kernel_rfl)))
 refine xp_loop3 (σ:=Nat) kp138_0 (fun i=>[(0,sl r (l.map intR)),(1,.func (.func 134) [] [.ptr 0 0 0]),(7,.int .i64 l.length),(8,.int .i64 i)])
  (fun _=>[some (.row 4 [E])]) (fun i=>l.length - i) (fun i=>i ≤ l.length) 0 ?_ (Nat.zero_le _) ?_
 ·(simp +decide only [go_sem,gcD_eq,gcIds_eq,hfl,hrn]<;>rfl)
 ·intro i hi
  by_cases hlt:i < l.length
  ·obtain ⟨x,hx⟩:∃ x,l[i]? = some x:=⟨_,List.getElem?_eq_getElem hlt⟩
   have c1:(i:Int) < l.length:=by omega
   have hw:=wI1 (n:=i) (by omega)
   have hcx:=hcall x (hc x (List.mem_of_getElem? hx)).1 (hc x (List.mem_of_getElem? hx)).2
   (repeat first|simp only [ww]|((with_reducible first|apply xs|apply xI);(·simp +decide only [go_sem,c1,hlt,hx,hw,hcx];rfl);with_reducible first|apply xT|apply xF|(·kernel_rfl)))
   refine lp_n (i + 1) ?_ (by omega) (by omega)
   (simp +decide only [go_sem,gcD_eq,gcIds_eq,hfl,hrn]<;>rfl)
  ·obtain rfl:i = l.length:=by omega
   have c1:¬ (l.length:Int) < l.length:=by omega
   (repeat first|simp only [ww]|((with_reducible first|apply xs|apply xI);(·simp +decide only [go_sem,c1];rfl);with_reducible first|apply xT|apply xF|(·kernel_rfl)))
   (first|with_reducible apply fq_r|with_reducible apply fq_n);(·simp +decide only [go_sem,hrn]<;>rfl);(·simp +decide only [go_sem,hrn]<;>rfl)
theorem contf_other0 (r:Rep) (l:List Nat) (c:Cir) (hl:l.length < 1000000) (hc:∀ m ∈ l,m < c.nodes.length ∧ kindAt c.nodes m = 12) :
 sem L.env Mf 124 [sl r (l.map intR),.func (.func 134) [] [.ptr 0 0 0]] [some (.row 4 [c.enc])] = some (.bool false,[some (.row 4 [c.enc])]):=by
 have h:=callV_one (E:=L.env) (draw:=false) (call:=sem L.env Mf) (g:=138) (fs:=[]) (cs:=[]) (ar:=[sl r (l.map intR),.func (.func 134) [] [.ptr 0 0 0]]) (H:=[some (.row 4 [c.enc])]) (b:=0) (by kernel_rfl) (by kernel_rfl) rfl rfl (refsO_flat (flat_cirO c)) (FlatO.row (flat_cirO c)) (by simp only [List.nil_append,List.append_nil,refsL_cons,go_sem]) (by simp only [List.nil_append,List.append_nil,List.map_cons,List.map_nil,ren_sl];simp [ren,renL,piOf]) (idxf_other r l c hl hc) rfl
 have c1:¬ (0:Int) ≤ -1:=by omega
 have hfl:refsL c.enc = []:=by simp only [Cir.enc,go_sem]
 have hrn:∀ π,c.enc.map (ren π) = c.enc:=fun π=>renM_flat π hfl
 generalize he:c.enc = E at hfl hrn h
 (refine sem_wp (code:=(Tryz.f124.body).getD .skip) (N:=9) (results:=[.tmp 4]) (by kernel_rfl) (no _ (by rfl)) rfl rfl ?_;simp only [Tryz.f124,Option.getD_some])
 (repeat first|simp only [ww]|((with_reducible first|apply xs|apply xI);(·simp +decide only [go_sem,h,c1];rfl);with_reducible first|apply xT|apply xF|(·kernel_rfl)))
 (first|with_reducible apply fq_r|with_reducible apply fq_n);(·simp +decide only [go_sem,hrn]<;>rfl);(·simp +decide only [go_sem,hrn]<;>rfl)
theorem contf_other {d:Bool} {H:Heap} {b:Nat} (c:Cir) (r:Rep) (l:List Nat) (hl:l.length < 1000000) (hc:∀ m ∈ l,m < c.nodes.length ∧ kindAt c.nodes m = 12) (hb:HeapF H b = some (.row 4 [c.enc])) :
 callV L.env d (sem L.env Mf) (.func (.func 124) [] []) [sl r (l.map intR),.func (.func 134) [] [.ptr b 0 0]] H = some (.bool false,H,[b]):=
 callV_one (fs:=[]) (cs:=[]) (ar:=[sl r (l.map intR),.func (.func 134) [] [.ptr b 0 0]]) (by kernel_rfl) (by kernel_rfl) rfl hb (refsO_flat (flat_cirO c)) (FlatO.row (flat_cirO c)) (by simp only [List.nil_append,List.append_nil,refsL_cons,go_sem]) (by simp only [List.nil_append,List.append_nil,List.map_cons,List.map_nil,ren_sl];simp [ren,renL,piOf]) (contf_other0 r l c hl hc) rfl
theorem bit_ok (c:Cir) (x:Nd) (hm:x.mem = 0 ∧ x.bit = 0) (hk:x.kind ≤ 14):sem L.env Mf 135 [.agg c.enc,.agg x.enc] [] = some (.bool true,[]):=by
 have c1:¬ (x.kind:Int) = 15:=by omega
 obtain ⟨m1,m2⟩:=hm
 simp only [Cir.enc,Nd.enc,m1,m2]
 (refine sem_wp (code:=(Tryz.f135.body).getD .skip) (N:=45) (results:=[.tmp 4]) (by kernel_rfl) (no _ (by rfl)) rfl rfl ?_;simp only [Tryz.f135,Option.getD_some])
 (repeat first|simp only [ww]|((with_reducible first|apply xs|apply xI);(·simp +decide only [go_sem,c1];rfl);with_reducible first|apply xT|apply xF|(·kernel_rfl)))
 (first|with_reducible apply fq_r|with_reducible apply fq_n);(·simp +decide only [go_sem]<;>rfl);(·simp +decide only [go_sem]<;>rfl)
theorem bit_call {d:Bool} (H:Heap) (c:Cir) (x:Nd) (hm:x.mem = 0 ∧ x.bit = 0) (hk:x.kind ≤ 14):callV L.env d (sem L.env Mf) (.func (.func 135) [] []) [.agg c.enc,.agg x.enc] H = some (.bool true,H,[]):=
 callV_flat (by kernel_rfl) (by kernel_rfl) rfl (by simp only [refsL_cons,refs_agg,Cir.enc,go_sem]) (bit_ok c x hm hk) rfl
theorem node_ok (c:Cir) (h:c.wf) (x:Nd) (hx:x ∈ c.nodes):sem L.env Mf 121 [.agg c.enc,.agg x.enc] [] = some (.int .i64 0,[]):=by
 have k14:=h.kind x hx
 have hlo:=h.lo x hx
 have hhi:=h.hi x hx
 have hlen:x.ins.length < 1000000:=by
  have:faninHi x.kind ≤ 16:=by
   have hk:x.kind = 0 ∨ x.kind = 1 ∨ x.kind = 2 ∨ x.kind = 3 ∨ x.kind = 4 ∨ x.kind = 5 ∨ x.kind = 6 ∨ x.kind = 7 ∨ x.kind = 8 ∨ x.kind = 9 ∨ x.kind = 10 ∨ x.kind = 11 ∨ x.kind = 12 ∨ x.kind = 13 ∨ x.kind = 14:=by omega
   rcases hk with e|e|e|e|e|e|e|e|e|e|e|e|e|e|e<;>rw [e]<;>decide
  omega
 have hf:=fun H=>fanin_call (d:=false) H x.kind (by omega)
 have ho:=fun H=>outside_call (d:=true) H c
 have hc:=fun H=>contf_out (d:=true) H c x.c x.ins hlen (h.ins x hx)
 have hb:=fun H=>bit_call (d:=false) H c x (h.mem x hx) k14
 have c1:¬ (15:Int) < x.kind:=by omega
 have c2:¬ (x.ins.length:Int) < faninLo x.kind:=by omega
 have c3:¬ (faninHi x.kind:Int) < x.ins.length:=by omega
 have hfl:refsL c.enc = []:=by simp only [Cir.enc,go_sem]
 by_cases hk:x.kind = 13
 ·have hoth:=fun (X:Option AObj)=>contf_other (d:=false) (H:=[some (.row 4 [c.enc]),X]) (b:=0) c x.c x.ins hlen (fun m hm=>⟨h.ins x hx m hm,h.bus x hx hk m hm⟩) rfl
  have ck:decide ((x.kind:Int) = 13) = true:=decide_eq_true (by omega)
  simp only [Cir.enc,Nd.enc] at ho hc hb hoth ⊢
  (refine sem_wp (code:=(Tryz.f121.body).getD .skip) (N:=53) (results:=[.tmp 4]) (by kernel_rfl) (no _ (by rfl)) rfl rfl ?_;simp only [Tryz.f121,Option.getD_some])
  (repeat first|simp only [ww]|((with_reducible first|apply xs|apply xI);(·simp +decide only [go_sem,hf,c1,c2,c3,ho,hc,hb,hoth,ck];rfl);with_reducible first|apply xT|apply xF|(·kernel_rfl)))
  (first|with_reducible apply fq_r|with_reducible apply fq_n);(·simp +decide only [go_sem]<;>rfl);(·simp +decide only [go_sem]<;>rfl)
 ·have ck:¬ (x.kind:Int) = 13:=by omega
  simp only [Cir.enc,Nd.enc] at ho hc hb ⊢
  (refine sem_wp (code:=(Tryz.f121.body).getD .skip) (N:=53) (results:=[.tmp 4]) (by kernel_rfl) (no _ (by rfl)) rfl rfl ?_;simp only [Tryz.f121,Option.getD_some])
  (repeat first|simp only [ww]|((with_reducible first|apply xs|apply xI);(·simp +decide only [go_sem,hf,c1,c2,c3,ho,hc,hb,ck];rfl);with_reducible first|apply xT|apply xF|(·kernel_rfl)))
  (first|with_reducible apply fq_r|with_reducible apply fq_n);(·simp +decide only [go_sem]<;>rfl);(·simp +decide only [go_sem]<;>rfl)
theorem node_call {d:Bool} (H:Heap) (c:Cir) (h:c.wf) (x:Nd) (hx:x ∈ c.nodes):callV L.env d (sem L.env Mf) (.func (.func 121) [] []) [.agg c.enc,.agg x.enc] H = some (.int .i64 0,H,[]):=
 callV_flat (by kernel_rfl) (by kernel_rfl) rfl (by simp only [refsL_cons,refs_agg,Cir.enc,go_sem]) (node_ok c h x hx) rfl
theorem isname_ok (i:Nat) (hi:i < 14):sem L.env Mf 136 [.str (nameS i)] [] = some (.bool true,[]):=by
 have h:i = 0 ∨ i = 1 ∨ i = 2 ∨ i = 3 ∨ i = 4 ∨ i = 5 ∨ i = 6 ∨ i = 7 ∨ i = 8 ∨ i = 9 ∨ i = 10 ∨ i = 11 ∨ i = 12 ∨ i = 13:=by omega
 rcases h with rfl|rfl|rfl|rfl|rfl|rfl|rfl|rfl|rfl|rfl|rfl|rfl|rfl|rfl
 ·exact isname_0
 ·exact isname_1
 ·exact isname_2
 ·exact isname_3
 ·exact isname_4
 ·exact isname_5
 ·exact isname_6
 ·exact isname_7
 ·exact isname_8
 ·exact isname_9
 ·exact isname_10
 ·exact isname_11
 ·exact isname_12
 ·exact isname_13
theorem isname_call {d:Bool} (H:Heap) (i:Nat) (hi:i < 14):callV L.env d (sem L.env Mf) (.func (.func 136) [] []) [.str (nameS i)] H = some (.bool true,H,[]):=
 callV_flat (by kernel_rfl) (by kernel_rfl) rfl rfl (isname_ok i hi) rfl
def nmKeys (i:Nat):List AV:=(List.range i).map fun j=>.str (nameS j)
theorem nmKeys_succ (i:Nat):nmKeys (i + 1) = nmKeys i ++ [.str (nameS i)]:=by unfold nmKeys;rw [List.range_succ,List.map_append];rfl
theorem eqS (a b:List UInt8):aeq L.env 6 9 (.str a) (.str b) = some (a == b):=by kernel_rfl
theorem nameS_inj {i j:Nat} (hi:i < 14) (hj:j < 14) (h:nameS i = nameS j):i = j:=by
 unfold nameS at h
 simp only [List.cons.injEq,and_true,true_and] at h
 have h1:=congrArg UInt8.toNat h.1
 have h2:=congrArg UInt8.toNat h.2
 simp only [UInt8.toNat_ofNat'] at h1 h2
 omega
theorem find_nm (s:Nat) (hs:s < 14):∀ (l:List Nat) (b:Nat),(∀ j ∈ l,j < s) → afindKey (aeq L.env 6 9) (.str (nameS s)) (l.map fun j=>.str (nameS j)) b = some none
 | [],b,_=>rfl
 | j :: l,b,h=>by
  have hne:(nameS s == nameS j) = false:=by
   rw [beq_eq_false_iff_ne]
   intro e
   have:=nameS_inj hs (by have:=h j (by simp);omega) e
   have:=h j (by simp)
   omega
  simp only [List.map_cons,afindKey,eqS,hne,cond_false]
  exact find_nm s hs l (b + 1) (fun j hj=>h j (by simp [hj]))
theorem nm_find (i:Nat) (hi:i < 14):afindKey (aeq L.env 6 9) (.str (nameS i)) (nmKeys i) 0 = some none:=find_nm i hi _ 0 (fun j hj=>by simpa using hj)
def nmO (i:Nat):AObj:=.map (nmKeys i) (List.replicate i (.bool true)) (List.range i) i
theorem nm_lookup (i:Nat) (hi:i < 14):alookup L.env (HeapF [some (nmO i)]) 194 (.map 0) (.str (nameS i)) false = some (.bool false):=by
 have h:=nm_find i hi
 have e:alookup L.env (HeapF [some (nmO i)]) 194 (.map 0) (.str (nameS i)) false = match afindKey (aeq L.env 6 9) (.str (nameS i)) (nmKeys i) 0 with
  | some (some j)=>match (List.replicate i (AV.bool true))[j]? with
   | some v=>some (bif false then .tuple [v,.bool true] else v)
   | none=>none
  | some none=>some (.bool false)
  | none=>none:=by kernel_rfl
 rw [e,h]
theorem nm_update (i:Nat) (hi:i < 14):amapUpdate L.env (HeapF [some (nmO i)]) 194 (.map 0) (.str (nameS i)) (.bool true) = some (.set 0 (nmO (i + 1))):=by
 have h:=nm_find i hi
 unfold amapUpdate
 have e:apairs L.env (HeapF [some (nmO i)]) 194 (.map 0) (.str (nameS i)) = match afindKey (aeq L.env 6 9) (.str (nameS i)) (nmKeys i) 0 with
  | some (some j)=>match (nmKeys i)[j]? with
   | some k0=>bif asame k0 (.str (nameS i)) then some (0,nmKeys i,List.replicate i (AV.bool true),List.range i,i,some j) else none
   | none=>none
  | some none=>some (0,nmKeys i,List.replicate i (AV.bool true),List.range i,i,none)
  | none=>none:=by kernel_rfl
 rw [e,h]
 simp only [nmO,nmKeys_succ,List.range_succ,List.replicate_succ']
theorem nm_flat (i:Nat):refsO (some (nmO i)) = []:=by
 simp only [nmO,refsO,nmKeys]
 have h1:∀ l:List Nat,refsL (l.map fun j=>AV.str (nameS j)) = []:=by intro l;induction l with|nil=>rfl|cons a l ih=>simp [refsL,refs,ih]
 have h2:∀ n,refsL (List.replicate n (AV.bool true)) = []:=by intro n;induction n with|zero=>rfl|succ n ih=>simp [List.replicate_succ,refsL,refs,ih]
 rw [h1,h2];rfl
theorem nm_ren (π:Nat → Option Nat) (i:Nat):renObj π (nmO i) = nmO i:=by
 have h:=nm_flat i
 simp only [nmO,refsO,List.append_eq_nil_iff] at h
 simp only [nmO,renObj,renM_flat π h.1,renM_flat π h.2]
theorem names_ok (c:Cir) (h:c.wf):sem L.env Mf 122 [.agg c.enc] [] = some (.int .i64 0,[]):=by
 have hn:=h.len
 have hnm:c.names.length = c.nodes.length:=by rw [h.names];simp
 simp only [Cir.enc]
 (refine sem_wp (code:=(Tryz.f122.body).getD .skip) (N:=25) (results:=[.tmp 2]) (by kernel_rfl) (no _ (by rfl)) rfl rfl ?_;simp only [Tryz.f122,Option.getD_some])
 (repeat first|simp only [ww]|((with_reducible first|apply xs|apply xI);(·simp +decide only [go_sem];rfl);with_reducible first|apply xT|apply xF|(·kernel_rfl)))
 have e0:AObj.map [] [] [] 0 = nmO 0:=by rfl
 refine xp_loop3 (σ:=Nat) kp122_0 (fun i=>[(3,.map 0),(8,sl c.mc (c.names.map strR)),(9,.int .i64 c.names.length),(10,.int .i64 i)])
  (fun i=>[some (nmO i)]) (fun i=>c.names.length - i) (fun i=>i ≤ c.names.length) 0 ?_ (Nat.zero_le _) ?_
 ·rw [e0]
  (simp +decide only [go_sem,gcD_eq,gcIds_eq,nm_flat,nm_ren]<;>rfl)
 ·intro i hi
  by_cases hlt:i < c.names.length
  ·have hx:c.names[i]? = some (nameS i):=by rw [h.names,List.getElem?_map,List.getElem?_range (by omega)];rfl
   have c1:(i:Int) < c.names.length:=by omega
   have hw:=wI1 (n:=i) (by omega)
   have hcn:=fun H=>isname_call (d:=false) H i (by omega)
   have hlk:=nm_lookup i (by omega)
   have hup:=nm_update i (by omega)
   (repeat first|simp only [ww]|((with_reducible first|apply xs|apply xI);(·simp +decide only [go_sem,c1,hlt,hx,hw,hcn,hlk,hup];rfl);with_reducible first|apply xT|apply xF|(·kernel_rfl)))
   refine lp_n (i + 1) ?_ (by omega) (by omega)
   (simp +decide only [go_sem,gcD_eq,gcIds_eq,nm_flat,nm_ren]<;>rfl)
  ·obtain rfl:i = c.names.length:=by omega
   have c1:¬ (c.names.length:Int) < c.names.length:=by omega
   (repeat first|simp only [ww]|((with_reducible first|apply xs|apply xI);(·simp +decide only [go_sem,c1];rfl);with_reducible first|apply xT|apply xF|(·kernel_rfl)))
   (first|with_reducible apply fq_r|with_reducible apply fq_n);(·simp +decide only [go_sem]<;>rfl);(·simp +decide only [go_sem]<;>rfl)
open Go.Proofs Go.Ax Go.Pc
set_option maxRecDepth 100000
theorem refs_cirA (c:Cir):refsL [.agg c.enc] = []:=by simp only [refsL_cons,refs_agg,Cir.enc,go_sem]
theorem names_call {d:Bool} (H:Heap) (c:Cir) (h:c.wf):callV L.env d (sem L.env Mf) (.func (.func 122) [] []) [.agg c.enc] H = some (.int .i64 0,H,[]):=
 callV_flat (by kernel_rfl) (by kernel_rfl) rfl (refs_cirA c) (names_ok c h) rfl
theorem shape_ok (c:Cir) (h:c.wf):sem L.env Mf 101 [.agg c.enc] [] = some (.int .i64 0,[]):=by
 have hn:=h.len
 have hnm:c.names.length = c.nodes.length:=by rw [h.names];simp
 have hol:=h.outl
 have c1:¬ (16384:Int) < c.nodes.length:=by omega
 have c2:¬ (16384:Int) < c.outs.length:=by omega
 have hno:=fun H x hx=>node_call (d:=false) H c h x hx
 have hna:=fun H=>names_call (d:=false) H c h
 have hou:=fun H=>outside_call (d:=true) H c
 have hcf:=fun H=>contf_out (d:=true) H c c.oc c.outs (by omega) h.outs
 have hlen:c.enc.length = 4:=rfl
 simp only [Cir.enc] at hno hna hou hcf ⊢
 (refine sem_wp (code:=(Tryz.f101.body).getD .skip) (N:=73) (results:=[.tmp 2]) (by kernel_rfl) (no _ (by rfl)) rfl rfl ?_;simp only [Tryz.f101,Option.getD_some])
 (repeat first|simp only [ww]|((with_reducible first|apply xs|apply xI);(·simp +decide only [go_sem,c1,c2,hnm];rfl);with_reducible first|apply xT|apply xF|(·kernel_rfl)))
 refine xp_loop3 (σ:=Nat) kp101_1 (fun i=>[(1,.ptr 0 0 0),(36,sl c.nc (c.nodes.map Nd.enc)),(37,.int .i64 c.nodes.length),(38,.int .i64 i)])
  (fun i=>[some (.row 4 [[sl c.nc (c.nodes.map Nd.enc),sl c.mc (c.names.map strR),.nilslice,sl c.oc (c.outs.map intR)]])]) (fun i=>c.nodes.length - i) (fun i=>i ≤ c.nodes.length) 0 ?_ (Nat.zero_le _) ?_
 ·(simp +decide only [go_sem,gcD_eq,gcIds_eq]<;>rfl)
 ·intro i hi
  by_cases hlt:i < c.nodes.length
  ·obtain ⟨x,hx⟩:∃ x,c.nodes[i]? = some x:=⟨_,List.getElem?_eq_getElem hlt⟩
   have c1:(i:Int) < c.nodes.length:=by omega
   have hw:=wI1 (n:=i) (by omega)
   have hcx:=fun H=>hno H x (List.mem_of_getElem? hx)
   simp only [Nd.enc] at hcx
   (repeat first|simp only [ww]|((with_reducible first|apply xs|apply xI);(·simp +decide only [go_sem,c1,hlt,hx,hw,hcx];rfl);with_reducible first|apply xT|apply xF|(·kernel_rfl)))
   refine lp_n (i + 1) ?_ (by omega) (by omega)
   (simp +decide only [go_sem,gcD_eq,gcIds_eq]<;>rfl)
  ·obtain rfl:i = c.nodes.length:=by omega
   have c1:¬ (c.nodes.length:Int) < c.nodes.length:=by omega
   (repeat first|simp only [ww]|((with_reducible first|apply xs|apply xI);(·simp +decide only [go_sem,c1,hna];rfl);with_reducible first|apply xT|apply xF|(·kernel_rfl)))
   refine xp_loop3 (σ:=Nat) kp101_3 (fun i=>[(1,.ptr 0 0 0),(55,.nilslice),(56,.int .i64 0),(57,.int .i64 0)])
    (fun i=>[some (.row 4 [[sl c.nc (c.nodes.map Nd.enc),sl c.mc (c.names.map strR),.nilslice,sl c.oc (c.outs.map intR)]])]) (fun i=>0) (fun i=>True) 0 ?_ trivial ?_
   ·(simp +decide only [go_sem,gcD_eq,gcIds_eq]<;>rfl)
   ·intro i _
    (repeat first|simp only [ww]|((with_reducible first|apply xs|apply xI);(·simp +decide only [go_sem,hou,hcf];rfl);with_reducible first|apply xT|apply xF|(·kernel_rfl)))
    (first|with_reducible apply fq_r|with_reducible apply fq_n);(·simp +decide only [go_sem]<;>rfl);(·simp +decide only [go_sem]<;>rfl)
theorem shape_call {d:Bool} (H:Heap) (c:Cir) (h:c.wf):callV L.env d (sem L.env Mf) (.func (.func 101) [] []) [.agg c.enc] H = some (.int .i64 0,H,[]):=
 callV_flat (by kernel_rfl) (by kernel_rfl) rfl (refs_cirA c) (shape_ok c h) rfl
theorem comb_call {d:Bool} (H:Heap) (k:Nat) (hk:k < 256):callV L.env d (sem L.env Mf) (.func (.func 85) [] []) [.int .u8 k] H = some (.bool (isComb k),H,[]):=
 callV_flat (by kernel_rfl) (by kernel_rfl) rfl rfl (comb_ok k hk) rfl
end Go.ZInst
