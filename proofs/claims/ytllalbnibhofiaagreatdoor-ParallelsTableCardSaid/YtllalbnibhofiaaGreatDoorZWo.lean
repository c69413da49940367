/- Part of a proof. No condition. -/
import Derived.Test.YtllalbnibhofiaaGreatDoorZBase
import Derived.Test.YtllalbnibhofiaaGreatDoorPcB
set_option linter.unusedSimpArgs false
set_option linter.unusedVariables false
namespace Go.ZInst
open Go.Proofs Go.Ax Go.Pc
set_option maxRecDepth 100000
theorem clean_ok (v:Nat) (hv:v < 256):sem L.env Mf 74 [.int .u8 v] [] = some (.int .u8 (clean v:Nat),[]):=by
 by_cases h:3 < v
 ·have c:(3:Int) < v:=by omega
  rw [show clean v = 2 by simp [clean,h]]
  (refine sem_wp (code:=(Tryz.f74.body).getD .skip) (N:=6) (results:=[.tmp 2]) (by kernel_rfl) (no _ (by rfl)) rfl rfl ?_;simp only [Tryz.f74,Option.getD_some])
  (repeat first|simp only [ww]|((with_reducible first|apply xs|apply xI);(·simp +decide only [go_sem,c];rfl);with_reducible first|apply xT|apply xF|(·kernel_rfl)))
  (first|with_reducible apply fq_r|with_reducible apply fq_n);(·simp +decide only [go_sem]<;>rfl);(·simp +decide only [go_sem]<;>rfl)
 ·have c:¬ (3:Int) < v:=by omega
  rw [show clean v = v by simp [clean,h]]
  (refine sem_wp (code:=(Tryz.f74.body).getD .skip) (N:=6) (results:=[.tmp 2]) (by kernel_rfl) (no _ (by rfl)) rfl rfl ?_;simp only [Tryz.f74,Option.getD_some])
  (repeat first|simp only [ww]|((with_reducible first|apply xs|apply xI);(·simp +decide only [go_sem,c];rfl);with_reducible first|apply xT|apply xF|(·kernel_rfl)))
  (first|with_reducible apply fq_r|with_reducible apply fq_n);(·simp +decide only [go_sem]<;>rfl);(·simp +decide only [go_sem]<;>rfl)
theorem clean_call {d:Bool} (H:Heap) (v:Nat) (hv:v < 256):callV L.env d (sem L.env Mf) (.func (.func 74) [] []) [.int .u8 v] H = some (.int .u8 (clean v:Nat),H,[]):=
 callV_flat (by kernel_rfl) (by kernel_rfl) rfl rfl (clean_ok v hv) rfl
theorem neg0:-BitVec.ofInt 64 0 = 0#64:=by decide
theorem neg1:-BitVec.ofInt 64 1 = BitVec.allOnes 64:=by decide
theorem fill_ok (v:Nat) (hv:v < 256):sem L.env Mf 45 [.int .u8 v] [] = some (.agg (wFill v).enc,[]):=by
 have hc:=fun H=>clean_call (d:=false) H v hv
 have h4:clean v < 4:=by unfold clean;split<;>omega
 have hw:wFill v = match clean v with
  | 0=>⟨0#64,BitVec.allOnes 64⟩
  | 1=>⟨BitVec.allOnes 64,0#64⟩
  | 2=>⟨0#64,0#64⟩
  | _=>⟨BitVec.allOnes 64,BitVec.allOnes 64⟩:=rfl
 rw [hw]
 generalize clean v = c at hc h4
 have h:c = 0 ∨ c = 1 ∨ c = 2 ∨ c = 3:=by omega
 rcases h with rfl|rfl|rfl|rfl
 ·(refine sem_wp (code:=(Tryz.f45.body).getD .skip) (N:=15) (results:=[.cell 2 111]) (by kernel_rfl) (no _ (by rfl)) rfl rfl ?_;simp only [Tryz.f45,Option.getD_some])
  (repeat first|simp only [ww]|((with_reducible first|apply xs|apply xI);(·simp +decide only [go_sem,hc,neg0,neg1];rfl);with_reducible first|apply xT|apply xF|(·kernel_rfl)))
  (first|with_reducible apply fq_r|with_reducible apply fq_n);(·simp +decide only [go_sem]<;>rfl);(·simp +decide only [go_sem]<;>rfl)
 ·(refine sem_wp (code:=(Tryz.f45.body).getD .skip) (N:=15) (results:=[.cell 2 111]) (by kernel_rfl) (no _ (by rfl)) rfl rfl ?_;simp only [Tryz.f45,Option.getD_some])
  (repeat first|simp only [ww]|((with_reducible first|apply xs|apply xI);(·simp +decide only [go_sem,hc,neg0,neg1];rfl);with_reducible first|apply xT|apply xF|(·kernel_rfl)))
  (first|with_reducible apply fq_r|with_reducible apply fq_n);(·simp +decide only [go_sem]<;>rfl);(·simp +decide only [go_sem]<;>rfl)
 ·(refine sem_wp (code:=(Tryz.f45.body).getD .skip) (N:=15) (results:=[.cell 2 111]) (by kernel_rfl) (no _ (by rfl)) rfl rfl ?_;simp only [Tryz.f45,Option.getD_some])
  (repeat first|simp only [ww]|((with_reducible first|apply xs|apply xI);(·simp +decide only [go_sem,hc,neg0,neg1];rfl);with_reducible first|apply xT|apply xF|(·kernel_rfl)))
  (first|with_reducible apply fq_r|with_reducible apply fq_n);(·simp +decide only [go_sem]<;>rfl);(·simp +decide only [go_sem]<;>rfl)
 ·(refine sem_wp (code:=(Tryz.f45.body).getD .skip) (N:=15) (results:=[.cell 2 111]) (by kernel_rfl) (no _ (by rfl)) rfl rfl ?_;simp only [Tryz.f45,Option.getD_some])
  (repeat first|simp only [ww]|((with_reducible first|apply xs|apply xI);(·simp +decide only [go_sem,hc,neg0,neg1];rfl);with_reducible first|apply xT|apply xF|(·kernel_rfl)))
  (first|with_reducible apply fq_r|with_reducible apply fq_n);(·simp +decide only [go_sem]<;>rfl);(·simp +decide only [go_sem]<;>rfl)
theorem fill_call {d:Bool} (H:Heap) (v:Nat) (hv:v < 256):callV L.env d (sem L.env Mf) (.func (.func 45) [] []) [.int .u8 v] H = some (.agg (wFill v).enc,H,[]):=
 callV_flat (by kernel_rfl) (by kernel_rfl) rfl rfl (fill_ok v hv) rfl
theorem fill_lit {d:Bool} (H:Heap) (v:Nat) (hv:v < 256) {n:Int} (hn:n = v):callV L.env d (sem L.env Mf) (.func (.func 45) [] []) [.int .u8 n] H = some (.agg (wFill v).enc,H,[]):=by
 subst hn;exact fill_call H v hv
theorem and_ok (l:List W) (hl:l.length < 1000000):sem L.env Mf 79 [.slice 0 0 l.length (some l.length)] [some (.row 2 (l.map W.enc))] = some (.agg (wFold wAnd (wFill 1) l).enc,[some (.row 2 (l.map W.enc))]):=by
 have hc:=fun H=>fill_lit (d:=false) H 1 (by omega) (n:=1) rfl
 generalize wFill 1 = z at hc
 simp only [go_sem] at hc
 (refine sem_wp (code:=(Tryz.f79.body).getD .skip) (N:=26) (results:=[.cell 2 111]) (by kernel_rfl) (no _ (by rfl)) rfl rfl ?_;simp only [Tryz.f79,Option.getD_some])
 (repeat first|simp only [ww]|((with_reducible first|apply xs|apply xI);(·simp +decide only [go_sem,hc];rfl);with_reducible first|apply xT|apply xF|(·kernel_rfl)))
 refine xp_loop (σ:=Nat) kp79_0 (fun i=>[(2,.ptr 1 0 0),(3,.ptr 2 0 0),(7,.slice 0 0 l.length (some l.length)),(8,.int .i64 l.length),(9,.int .i64 i)])
  (fun i=>[some (.row 2 (l.map W.enc)),some (.row 2 [[u64 (BitVec.ofInt 64 0),u64 (BitVec.ofInt 64 0)]]),some (.row 2 [(wFold wAnd z (l.take i)).enc])]) (fun i=>l.length - i) (fun i=>i ≤ l.length) 0 ?_ (Nat.zero_le _) ?_ ?_
 ·(simp +decide only [go_sem,gcD_eq,gcIds_eq,List.take_zero]<;>rfl)
 ·intro i _
  (simp +decide only [go_sem,gcD_eq,gcIds_eq]<;>rfl)
 ·intro i hi
  by_cases hlt:i < l.length
  ·obtain ⟨x,hx⟩:∃ x,l[i]? = some x:=⟨_,List.getElem?_eq_getElem hlt⟩
   have c1:(i:Int) < l.length:=by omega
   have hw:=wI1 (n:=i) (by omega)
   have hs:=wFold_succ (f:=wAnd) (z:=z) hx
   (repeat first|simp only [ww]|((with_reducible first|apply xs|apply xI);(·simp +decide only [go_sem,c1,hlt,hx,hw];rfl);with_reducible first|apply xT|apply xF|(·kernel_rfl)))
   refine lp_n (i + 1) ?_ (by omega) (by omega)
   rw [hs]
   (simp +decide only [go_sem,gcD_eq,gcIds_eq,wAnd]<;>rfl)
  ·obtain rfl:i = l.length:=by omega
   have c1:¬ (l.length:Int) < l.length:=by omega
   rw [List.take_length]
   (repeat first|simp only [ww]|((with_reducible first|apply xs|apply xI);(·simp +decide only [go_sem,c1];rfl);with_reducible first|apply xT|apply xF|(·kernel_rfl)))
   (first|with_reducible apply fq_r|with_reducible apply fq_n);(·simp +decide only [go_sem]<;>rfl);(·simp +decide only [go_sem]<;>rfl)
theorem or_ok (l:List W) (hl:l.length < 1000000):sem L.env Mf 80 [.slice 0 0 l.length (some l.length)] [some (.row 2 (l.map W.enc))] = some (.agg (wFold wOr (wFill 0) l).enc,[some (.row 2 (l.map W.enc))]):=by
 have hc:=fun H=>fill_lit (d:=false) H 0 (by omega) (n:=0) rfl
 generalize wFill 0 = z at hc
 simp only [go_sem] at hc
 (refine sem_wp (code:=(Tryz.f80.body).getD .skip) (N:=26) (results:=[.cell 2 111]) (by kernel_rfl) (no _ (by rfl)) rfl rfl ?_;simp only [Tryz.f80,Option.getD_some])
 (repeat first|simp only [ww]|((with_reducible first|apply xs|apply xI);(·simp +decide only [go_sem,hc];rfl);with_reducible first|apply xT|apply xF|(·kernel_rfl)))
 refine xp_loop (σ:=Nat) kp80_0 (fun i=>[(2,.ptr 1 0 0),(3,.ptr 2 0 0),(7,.slice 0 0 l.length (some l.length)),(8,.int .i64 l.length),(9,.int .i64 i)])
  (fun i=>[some (.row 2 (l.map W.enc)),some (.row 2 [[u64 (BitVec.ofInt 64 0),u64 (BitVec.ofInt 64 0)]]),some (.row 2 [(wFold wOr z (l.take i)).enc])]) (fun i=>l.length - i) (fun i=>i ≤ l.length) 0 ?_ (Nat.zero_le _) ?_ ?_
 ·(simp +decide only [go_sem,gcD_eq,gcIds_eq,List.take_zero]<;>rfl)
 ·intro i _
  (simp +decide only [go_sem,gcD_eq,gcIds_eq]<;>rfl)
 ·intro i hi
  by_cases hlt:i < l.length
  ·obtain ⟨x,hx⟩:∃ x,l[i]? = some x:=⟨_,List.getElem?_eq_getElem hlt⟩
   have c1:(i:Int) < l.length:=by omega
   have hw:=wI1 (n:=i) (by omega)
   have hs:=wFold_succ (f:=wOr) (z:=z) hx
   (repeat first|simp only [ww]|((with_reducible first|apply xs|apply xI);(·simp +decide only [go_sem,c1,hlt,hx,hw];rfl);with_reducible first|apply xT|apply xF|(·kernel_rfl)))
   refine lp_n (i + 1) ?_ (by omega) (by omega)
   rw [hs]
   (simp +decide only [go_sem,gcD_eq,gcIds_eq,wOr]<;>rfl)
  ·obtain rfl:i = l.length:=by omega
   have c1:¬ (l.length:Int) < l.length:=by omega
   rw [List.take_length]
   (repeat first|simp only [ww]|((with_reducible first|apply xs|apply xI);(·simp +decide only [go_sem,c1];rfl);with_reducible first|apply xT|apply xF|(·kernel_rfl)))
   (first|with_reducible apply fq_r|with_reducible apply fq_n);(·simp +decide only [go_sem]<;>rfl);(·simp +decide only [go_sem]<;>rfl)
theorem xor_ok (l:List W) (hl:l.length < 1000000):sem L.env Mf 81 [.slice 0 0 l.length (some l.length)] [some (.row 2 (l.map W.enc))] = some (.agg (wFold wXor (wFill 0) l).enc,[some (.row 2 (l.map W.enc))]):=by
 have hc:=fun H=>fill_lit (d:=false) H 0 (by omega) (n:=0) rfl
 generalize wFill 0 = z at hc
 simp only [go_sem] at hc
 (refine sem_wp (code:=(Tryz.f81.body).getD .skip) (N:=38) (results:=[.cell 2 111]) (by kernel_rfl) (no _ (by rfl)) rfl rfl ?_;simp only [Tryz.f81,Option.getD_some])
 (repeat first|simp only [ww]|((with_reducible first|apply xs|apply xI);(·simp +decide only [go_sem,hc];rfl);with_reducible first|apply xT|apply xF|(·kernel_rfl)))
 refine xp_loop (σ:=Nat) kp81_0 (fun i=>[(2,.ptr 1 0 0),(3,.ptr 2 0 0),(7,.slice 0 0 l.length (some l.length)),(8,.int .i64 l.length),(9,.int .i64 i)])
  (fun i=>[some (.row 2 (l.map W.enc)),some (.row 2 [[u64 (BitVec.ofInt 64 0),u64 (BitVec.ofInt 64 0)]]),some (.row 2 [(wFold wXor z (l.take i)).enc])]) (fun i=>l.length - i) (fun i=>i ≤ l.length) 0 ?_ (Nat.zero_le _) ?_ ?_
 ·(simp +decide only [go_sem,gcD_eq,gcIds_eq,List.take_zero]<;>rfl)
 ·intro i _
  (simp +decide only [go_sem,gcD_eq,gcIds_eq]<;>rfl)
 ·intro i hi
  by_cases hlt:i < l.length
  ·obtain ⟨x,hx⟩:∃ x,l[i]? = some x:=⟨_,List.getElem?_eq_getElem hlt⟩
   have c1:(i:Int) < l.length:=by omega
   have hw:=wI1 (n:=i) (by omega)
   have hs:=wFold_succ (f:=wXor) (z:=z) hx
   (repeat first|simp only [ww]|((with_reducible first|apply xs|apply xI);(·simp +decide only [go_sem,c1,hlt,hx,hw];rfl);with_reducible first|apply xT|apply xF|(·kernel_rfl)))
   refine lp_n (i + 1) ?_ (by omega) (by omega)
   rw [hs]
   (simp +decide only [go_sem,gcD_eq,gcIds_eq,wXor]<;>rfl)
  ·obtain rfl:i = l.length:=by omega
   have c1:¬ (l.length:Int) < l.length:=by omega
   rw [List.take_length]
   (repeat first|simp only [ww]|((with_reducible first|apply xs|apply xI);(·simp +decide only [go_sem,c1];rfl);with_reducible first|apply xT|apply xF|(·kernel_rfl)))
   (first|with_reducible apply fq_r|with_reducible apply fq_n);(·simp +decide only [go_sem]<;>rfl);(·simp +decide only [go_sem]<;>rfl)
theorem read_ok (a:W):sem L.env Mf 77 [.agg a.enc] [] = some (.agg (wRead a).enc,[]):=by
 (refine sem_wp (code:=(Tryz.f77.body).getD .skip) (N:=18) (results:=[.cell 2 111]) (by kernel_rfl) (no _ (by rfl)) rfl rfl ?_;simp only [Tryz.f77,Option.getD_some])
 (repeat first|simp only [ww]|((with_reducible first|apply xs|apply xI);(·simp +decide only [go_sem];rfl);with_reducible first|apply xT|apply xF|(·kernel_rfl)))
 (first|with_reducible apply fq_r|with_reducible apply fq_n);(·simp +decide only [go_sem,wRead]<;>rfl);(·simp +decide only [go_sem,wRead]<;>rfl)
theorem read_call {d:Bool} (H:Heap) (a:W):callV L.env d (sem L.env Mf) (.func (.func 77) [] []) [.agg a.enc] H = some (.agg (wRead a).enc,H,[]):=
 callV_flat (by kernel_rfl) (by kernel_rfl) rfl rfl (read_ok a) rfl
theorem not_ok (a:W):sem L.env Mf 78 [.agg a.enc] [] = some (.agg (wNot a).enc,[]):=by
 (refine sem_wp (code:=(Tryz.f78.body).getD .skip) (N:=8) (results:=[.cell 2 111]) (by kernel_rfl) (no _ (by rfl)) rfl rfl ?_;simp only [Tryz.f78,Option.getD_some])
 (repeat first|simp only [ww]|((with_reducible first|apply xs|apply xI);(·simp +decide only [go_sem];rfl);with_reducible first|apply xT|apply xF|(·kernel_rfl)))
 (first|with_reducible apply fq_r|with_reducible apply fq_n);(·simp +decide only [go_sem,wNot]<;>rfl);(·simp +decide only [go_sem,wNot]<;>rfl)
theorem not_call {d:Bool} (H:Heap) (a:W):callV L.env d (sem L.env Mf) (.func (.func 78) [] []) [.agg a.enc] H = some (.agg (wNot a).enc,H,[]):=
 callV_flat (by kernel_rfl) (by kernel_rfl) rfl rfl (not_ok a) rfl
theorem mux_ok (a b c:W):sem L.env Mf 82 [.agg a.enc,.agg b.enc,.agg c.enc] [] = some (.agg (wMux a b c).enc,[]):=by
 (refine sem_wp (code:=(Tryz.f82.body).getD .skip) (N:=42) (results:=[.cell 6 111]) (by kernel_rfl) (no _ (by rfl)) rfl rfl ?_;simp only [Tryz.f82,Option.getD_some])
 (repeat first|simp only [ww]|((with_reducible first|apply xs|apply xI);(·simp +decide only [go_sem];rfl);with_reducible first|apply xT|apply xF|(·kernel_rfl)))
 (first|with_reducible apply fq_r|with_reducible apply fq_n);(·simp +decide only [go_sem,wMux]<;>rfl);(·simp +decide only [go_sem,wMux]<;>rfl)
theorem mux_call {d:Bool} (H:Heap) (a b c:W):callV L.env d (sem L.env Mf) (.func (.func 82) [] []) [.agg a.enc,.agg b.enc,.agg c.enc] H = some (.agg (wMux a b c).enc,H,[]):=
 callV_flat (by kernel_rfl) (by kernel_rfl) rfl rfl (mux_ok a b c) rfl
theorem tri_ok (a b:W):sem L.env Mf 83 [.agg a.enc,.agg b.enc] [] = some (.agg (wTri a b).enc,[]):=by
 (refine sem_wp (code:=(Tryz.f83.body).getD .skip) (N:=22) (results:=[.cell 4 111]) (by kernel_rfl) (no _ (by rfl)) rfl rfl ?_;simp only [Tryz.f83,Option.getD_some])
 (repeat first|simp only [ww]|((with_reducible first|apply xs|apply xI);(·simp +decide only [go_sem];rfl);with_reducible first|apply xT|apply xF|(·kernel_rfl)))
 (first|with_reducible apply fq_r|with_reducible apply fq_n);(·simp +decide only [go_sem,wTri]<;>rfl);(·simp +decide only [go_sem,wTri]<;>rfl)
theorem tri_call {d:Bool} (H:Heap) (a b:W):callV L.env d (sem L.env Mf) (.func (.func 83) [] []) [.agg a.enc,.agg b.enc] H = some (.agg (wTri a b).enc,H,[]):=
 callV_flat (by kernel_rfl) (by kernel_rfl) rfl rfl (tri_ok a b) rfl
theorem fanin_ok (k:Nat) (hk:k < 16):sem L.env Mf 75 [.int .u8 k] [] = some (.tuple [.int .i64 (faninLo k:Nat),.int .i64 (faninHi k:Nat)],[]):=by
 have w:=wI (n:=k) (by omega)
 have c:¬ (16:Int) ≤ k:=by omega
 have h:k = 0 ∨ k = 1 ∨ k = 2 ∨ k = 3 ∨ k = 4 ∨ k = 5 ∨ k = 6 ∨ k = 7 ∨ k = 8 ∨ k = 9 ∨ k = 10 ∨ k = 11 ∨ k = 12 ∨ k = 13 ∨ k = 14 ∨ k = 15:=by omega
 rcases h with rfl|rfl|rfl|rfl|rfl|rfl|rfl|rfl|rfl|rfl|rfl|rfl|rfl|rfl|rfl|rfl
 all_goals
  (refine sem_wp (code:=(Tryz.f75.body).getD .skip) (N:=15) (results:=[.tmp 2,.tmp 3]) (by kernel_rfl) (no _ (by rfl)) rfl rfl ?_;simp only [Tryz.f75,Option.getD_some])
  (repeat first|simp only [ww]|((with_reducible first|apply xs|apply xI);(·simp +decide only [go_sem,w,c];rfl);with_reducible first|apply xT|apply xF|(·kernel_rfl)))
  (first|with_reducible apply fq_r|with_reducible apply fq_n);(·simp +decide only [go_sem]<;>rfl);(·simp +decide only [go_sem]<;>rfl)
theorem bus_ok0 (c:Rep) (l:List W) (hl:l.length < 1000000):sem L.env Mf 76 [sl c (l.map W.enc)] [] = some (.agg (wBus l).enc,[]):=by
 (refine sem_wp (code:=(Tryz.f76.body).getD .skip) (N:=51) (results:=[.cell 2 111]) (by kernel_rfl) (no _ (by rfl)) rfl rfl ?_;simp only [Tryz.f76,Option.getD_some])
 (repeat first|simp only [ww]|((with_reducible first|apply xs|apply xI);(·simp +decide only [go_sem];rfl);with_reducible first|apply xT|apply xF|(·kernel_rfl)))
 refine xp_loop (σ:=Nat) kp76_0 (fun i=>[(2,.ptr 0 0 0),(3,u64 (busS (l.take i)).1),(4,u64 (busS (l.take i)).2.1),(5,u64 (busS (l.take i)).2.2),(8,sl c (l.map W.enc)),(9,.int .i64 l.length),(10,.int .i64 i)])
  (fun _=>[some (.row 2 [[u64 (BitVec.ofInt 64 0),u64 (BitVec.ofInt 64 0)]])]) (fun i=>l.length - i) (fun i=>i ≤ l.length) 0 ?_ (Nat.zero_le _) ?_ ?_
 ·(simp +decide only [go_sem,gcD_eq,gcIds_eq,List.take_zero,busS,List.foldl_nil]<;>rfl)
 ·intro i _
  (simp +decide only [go_sem,gcD_eq,gcIds_eq]<;>rfl)
 ·intro i hi
  by_cases hlt:i < l.length
  ·obtain ⟨x,hx⟩:∃ x,l[i]? = some x:=⟨_,List.getElem?_eq_getElem hlt⟩
   have c1:(i:Int) < l.length:=by omega
   have hw:=wI1 (n:=i) (by omega)
   have hs:=busS_succ hx
   (repeat first|simp only [ww]|((with_reducible first|apply xs|apply xI);(·simp +decide only [go_sem,c1,hlt,hx,hw];rfl);with_reducible first|apply xT|apply xF|(·kernel_rfl)))
   refine lp_n (i + 1) ?_ (by omega) (by omega)
   rw [hs]
   (simp +decide only [go_sem,gcD_eq,gcIds_eq,busF]<;>rfl)
  ·obtain rfl:i = l.length:=by omega
   have c1:¬ (l.length:Int) < l.length:=by omega
   rw [List.take_length]
   (repeat first|simp only [ww]|((with_reducible first|apply xs|apply xI);(·simp +decide only [go_sem,c1];rfl);with_reducible first|apply xT|apply xF|(·kernel_rfl)))
   (first|with_reducible apply fq_r|with_reducible apply fq_n);(·simp +decide only [go_sem,wBus,busE]<;>rfl);(·simp +decide only [go_sem,wBus,busE]<;>rfl)
theorem bus_ok1 (l:List W) (hl:l.length < 1000000):sem L.env Mf 76 [.slice 0 0 l.length (some l.length)] [some (.row 2 (l.map W.enc))] = some (.agg (wBus l).enc,[some (.row 2 (l.map W.enc))]):=by
 (refine sem_wp (code:=(Tryz.f76.body).getD .skip) (N:=51) (results:=[.cell 2 111]) (by kernel_rfl) (no _ (by rfl)) rfl rfl ?_;simp only [Tryz.f76,Option.getD_some])
 (repeat first|simp only [ww]|((with_reducible first|apply xs|apply xI);(·simp +decide only [go_sem];rfl);with_reducible first|apply xT|apply xF|(·kernel_rfl)))
 refine xp_loop (σ:=Nat) kp76_0 (fun i=>[(2,.ptr 1 0 0),(3,u64 (busS (l.take i)).1),(4,u64 (busS (l.take i)).2.1),(5,u64 (busS (l.take i)).2.2),(8,.slice 0 0 l.length (some l.length)),(9,.int .i64 l.length),(10,.int .i64 i)])
  (fun _=>[some (.row 2 (l.map W.enc)),some (.row 2 [[u64 (BitVec.ofInt 64 0),u64 (BitVec.ofInt 64 0)]])]) (fun i=>l.length - i) (fun i=>i ≤ l.length) 0 ?_ (Nat.zero_le _) ?_ ?_
 ·(simp +decide only [go_sem,gcD_eq,gcIds_eq,List.take_zero,busS,List.foldl_nil]<;>rfl)
 ·intro i _
  (simp +decide only [go_sem,gcD_eq,gcIds_eq]<;>rfl)
 ·intro i hi
  by_cases hlt:i < l.length
  ·obtain ⟨x,hx⟩:∃ x,l[i]? = some x:=⟨_,List.getElem?_eq_getElem hlt⟩
   have c1:(i:Int) < l.length:=by omega
   have hw:=wI1 (n:=i) (by omega)
   have hs:=busS_succ hx
   (repeat first|simp only [ww]|((with_reducible first|apply xs|apply xI);(·simp +decide only [go_sem,c1,hlt,hx,hw];rfl);with_reducible first|apply xT|apply xF|(·kernel_rfl)))
   refine lp_n (i + 1) ?_ (by omega) (by omega)
   rw [hs]
   (simp +decide only [go_sem,gcD_eq,gcIds_eq,busF]<;>rfl)
  ·obtain rfl:i = l.length:=by omega
   have c1:¬ (l.length:Int) < l.length:=by omega
   rw [List.take_length]
   (repeat first|simp only [ww]|((with_reducible first|apply xs|apply xI);(·simp +decide only [go_sem,c1];rfl);with_reducible first|apply xT|apply xF|(·kernel_rfl)))
   (first|with_reducible apply fq_r|with_reducible apply fq_n);(·simp +decide only [go_sem,wBus,busE]<;>rfl);(·simp +decide only [go_sem,wBus,busE]<;>rfl)
open Go.Proofs Go.Ax Go.Pc
set_option maxRecDepth 100000
theorem fanin_call {d:Bool} (H:Heap) (k:Nat) (hk:k < 16):callV L.env d (sem L.env Mf) (.func (.func 75) [] []) [.int .u8 k] H = some (.tuple [.int .i64 (faninLo k:Nat),.int .i64 (faninHi k:Nat)],H,[]):=
 callV_flat (by kernel_rfl) (by kernel_rfl) rfl rfl (fanin_ok k hk) rfl
theorem bus_call {d:Bool} (H:Heap) (c:Rep) (l:List W) (hl:l.length < 1000000):callV L.env d (sem L.env Mf) (.func (.func 76) [] []) [sl c (l.map W.enc)] H = some (.agg (wBus l).enc,H,[]):=
 callV_flat (by kernel_rfl) (by kernel_rfl) rfl (by simp only [go_sem]) (bus_ok0 c l hl) rfl
theorem fo_w (l:List W):FlatO (some (.row 2 (l.map W.enc))):=FlatO.row (flatW l)
theorem and_call1 (l:List W) (hl:l.length < 1000000) (X:Option AObj):callV L.env false (sem L.env Mf) (.func (.func 79) [] []) [.slice 1 0 l.length (some l.length)] [X,some (.row 2 (l.map W.enc))] = some (.agg (wFold wAnd (wFill 1) l).enc,[X,some (.row 2 (l.map W.enc))],[1]):=
 callV_read [1] (by kernel_rfl) (by kernel_rfl) rfl (by simp +decide only [go_sem]) rfl rfl (by intro b hb;simp only [List.mem_singleton] at hb;subst hb;exact fo_w l) (by simp +decide only [go_sem]) (by simp +decide only [go_sem]) (and_ok l hl) rfl
theorem or_call1 (l:List W) (hl:l.length < 1000000) (X:Option AObj):callV L.env false (sem L.env Mf) (.func (.func 80) [] []) [.slice 1 0 l.length (some l.length)] [X,some (.row 2 (l.map W.enc))] = some (.agg (wFold wOr (wFill 0) l).enc,[X,some (.row 2 (l.map W.enc))],[1]):=
 callV_read [1] (by kernel_rfl) (by kernel_rfl) rfl (by simp +decide only [go_sem]) rfl rfl (by intro b hb;simp only [List.mem_singleton] at hb;subst hb;exact fo_w l) (by simp +decide only [go_sem]) (by simp +decide only [go_sem]) (or_ok l hl) rfl
theorem xor_call1 (l:List W) (hl:l.length < 1000000) (X:Option AObj):callV L.env false (sem L.env Mf) (.func (.func 81) [] []) [.slice 1 0 l.length (some l.length)] [X,some (.row 2 (l.map W.enc))] = some (.agg (wFold wXor (wFill 0) l).enc,[X,some (.row 2 (l.map W.enc))],[1]):=
 callV_read [1] (by kernel_rfl) (by kernel_rfl) rfl (by simp +decide only [go_sem]) rfl rfl (by intro b hb;simp only [List.mem_singleton] at hb;subst hb;exact fo_w l) (by simp +decide only [go_sem]) (by simp +decide only [go_sem]) (xor_ok l hl) rfl
theorem and_call2 (l:List W) (hl:l.length < 1000000) (X:Option AObj) (Y:Option AObj):callV L.env false (sem L.env Mf) (.func (.func 79) [] []) [.slice 2 0 l.length (some l.length)] [X,Y,some (.row 2 (l.map W.enc))] = some (.agg (wFold wAnd (wFill 1) l).enc,[X,Y,some (.row 2 (l.map W.enc))],[2]):=
 callV_read [2] (by kernel_rfl) (by kernel_rfl) rfl (by simp +decide only [go_sem]) rfl rfl (by intro b hb;simp only [List.mem_singleton] at hb;subst hb;exact fo_w l) (by simp +decide only [go_sem]) (by simp +decide only [go_sem]) (and_ok l hl) rfl
theorem or_call2 (l:List W) (hl:l.length < 1000000) (X:Option AObj) (Y:Option AObj):callV L.env false (sem L.env Mf) (.func (.func 80) [] []) [.slice 2 0 l.length (some l.length)] [X,Y,some (.row 2 (l.map W.enc))] = some (.agg (wFold wOr (wFill 0) l).enc,[X,Y,some (.row 2 (l.map W.enc))],[2]):=
 callV_read [2] (by kernel_rfl) (by kernel_rfl) rfl (by simp +decide only [go_sem]) rfl rfl (by intro b hb;simp only [List.mem_singleton] at hb;subst hb;exact fo_w l) (by simp +decide only [go_sem]) (by simp +decide only [go_sem]) (or_ok l hl) rfl
theorem xor_call2 (l:List W) (hl:l.length < 1000000) (X:Option AObj) (Y:Option AObj):callV L.env false (sem L.env Mf) (.func (.func 81) [] []) [.slice 2 0 l.length (some l.length)] [X,Y,some (.row 2 (l.map W.enc))] = some (.agg (wFold wXor (wFill 0) l).enc,[X,Y,some (.row 2 (l.map W.enc))],[2]):=
 callV_read [2] (by kernel_rfl) (by kernel_rfl) rfl (by simp +decide only [go_sem]) rfl rfl (by intro b hb;simp only [List.mem_singleton] at hb;subst hb;exact fo_w l) (by simp +decide only [go_sem]) (by simp +decide only [go_sem]) (xor_ok l hl) rfl
theorem bus_call0 (l:List W) (hl:l.length < 1000000) (X:Option AObj):callV L.env false (sem L.env Mf) (.func (.func 76) [] []) [.slice 0 0 l.length (some l.length)] [some (.row 2 (l.map W.enc)),X] = some (.agg (wBus l).enc,[some (.row 2 (l.map W.enc)),X],[0]):=
 callV_read [0] (by kernel_rfl) (by kernel_rfl) rfl (by simp +decide only [go_sem]) rfl rfl (by intro b hb;simp only [List.mem_singleton] at hb;subst hb;exact fo_w l) (by simp +decide only [go_sem]) (by simp +decide only [go_sem]) (bus_ok1 l hl) rfl
set_option maxHeartbeats 8000000 in
theorem eval_ok0 (c:Rep) (k:Nat) (hk:k < 16) (l:List W) (hl:l.length < 1000):sem L.env Mf 46 [.int .u8 k,sl c (l.map W.enc)] [] = some (.agg (wEval k l).enc,[]):=by
 have hf:=fun H=>fanin_call (d:=false) H k hk
 have f0:=fun H=>fill_lit (d:=false) H 0 (by omega) (n:=0) rfl
 have f1:=fun H=>fill_lit (d:=false) H 1 (by omega) (n:=1) rfl
 have f2:=fun H=>fill_lit (d:=false) H 2 (by omega) (n:=2) rfl
 simp only [go_sem] at f0 f1 f2
 by_cases hlo:l.length < faninLo k
 ·have c1:(l.length:Int) < faninLo k:=by omega
  rw [show wEval k l = wFill 2 by simp [wEval,hlo]]
  (refine sem_wp (code:=(Tryz.f46.body).getD .skip) (N:=113) (results:=[.cell 4 111]) (by kernel_rfl) (no _ (by rfl)) rfl rfl ?_;simp only [Tryz.f46,Option.getD_some])
  (repeat first|simp only [ww]|((with_reducible first|apply xs|apply xI);(·simp +decide only [go_sem,hf,c1,f2];rfl);with_reducible first|apply xT|apply xF|(·kernel_rfl)))
  (first|with_reducible apply fq_r|with_reducible apply fq_n);(·simp +decide only [go_sem]<;>rfl);(·simp +decide only [go_sem]<;>rfl)
 have c1:¬ (l.length:Int) < faninLo k:=by omega
 by_cases hhi:faninHi k < l.length
 ·have c2:(faninHi k:Int) < l.length:=by omega
  rw [show wEval k l = wFill 2 by simp [wEval,hhi]]
  (refine sem_wp (code:=(Tryz.f46.body).getD .skip) (N:=113) (results:=[.cell 4 111]) (by kernel_rfl) (no _ (by rfl)) rfl rfl ?_;simp only [Tryz.f46,Option.getD_some])
  (repeat first|simp only [ww]|((with_reducible first|apply xs|apply xI);(·simp +decide only [go_sem,hf,c1,c2,f2];rfl);with_reducible first|apply xT|apply xF|(·kernel_rfl)))
  (first|with_reducible apply fq_r|with_reducible apply fq_n);(·simp +decide only [go_sem]<;>rfl);(·simp +decide only [go_sem]<;>rfl)
 have c2:¬ (faninHi k:Int) < l.length:=by omega
 have hb:¬ (l.length < faninLo k ∨ faninHi k < l.length):=by omega
 by_cases h13:k = 13
 ·subst h13
  rw [show wEval 13 l = wBus l by simp [wEval,hb]]
  have hbus:=fun H=>bus_call (d:=false) H c l (by omega)
  simp only [go_sem] at hbus
  (refine sem_wp (code:=(Tryz.f46.body).getD .skip) (N:=113) (results:=[.cell 4 111]) (by kernel_rfl) (no _ (by rfl)) rfl rfl ?_;simp only [Tryz.f46,Option.getD_some])
  (repeat first|simp only [ww]|((with_reducible first|apply xs|apply xI);(·simp +decide only [go_sem,hf,c1,c2,hbus];rfl);with_reducible first|apply xT|apply xF|(·kernel_rfl)))
  (first|with_reducible apply fq_r|with_reducible apply fq_n);(·simp +decide only [go_sem]<;>rfl);(·simp +decide only [go_sem]<;>rfl)
 have c13:¬ (k:Int) = 13:=by omega
 have hrm:l.length ≤ 1000000000:=by omega
 (refine sem_wp (code:=(Tryz.f46.body).getD .skip) (N:=113) (results:=[.cell 4 111]) (by kernel_rfl) (no _ (by rfl)) rfl rfl ?_;simp only [Tryz.f46,Option.getD_some])
 (repeat first|simp only [ww]|((with_reducible first|apply xs|apply xI);(·simp +decide only [go_sem,hf,c1,c2,c13,hrm];rfl);with_reducible first|apply xT|apply xF|(·kernel_rfl)))
 refine xp_loop (σ:=Nat) kp46_0 (fun i=>[(0,.int .u8 k),(4,.ptr 0 0 0),(7,.slice 1 0 l.length (some l.length)),(33,sl c (l.map W.enc)),(34,.int .i64 l.length),(35,.int .i64 i)])
  (fun i=>[some (.row 2 [[u64 (BitVec.ofInt 64 0),u64 (BitVec.ofInt 64 0)]]),some (.row 2 ((rdW l i).map W.enc))]) (fun i=>l.length - i) (fun i=>i ≤ l.length) 0 ?_ (Nat.zero_le _) ?_ ?_
 ·(simp +decide only [go_sem,gcD_eq,gcIds_eq,rdW_zero,zW]<;>rfl)
 ·intro i _
  (simp +decide only [go_sem,gcD_eq,gcIds_eq]<;>rfl)
 ·intro i hi
  by_cases hlt:i < l.length
  ·obtain ⟨x,hx⟩:∃ x,l[i]? = some x:=⟨_,List.getElem?_eq_getElem hlt⟩
   have c1:(i:Int) < l.length:=by omega
   have hw:=wI1 (n:=i) (by omega)
   have hs:=rdW_setR hx
   have hg:=rdW_get hlt
   have hrd:=fun H=>read_call (d:=false) H x
   simp only [go_sem] at hrd
   (repeat first|simp only [ww]|((with_reducible first|apply xs|apply xI);(·simp +decide only [go_sem,c1,hlt,hx,hw,hg,hrd,zW,hs];rfl);with_reducible first|apply xT|apply xF|(·kernel_rfl)))
   refine lp_n (i + 1) ?_ (by omega) (by omega)
   (simp +decide only [go_sem,gcD_eq,gcIds_eq]<;>rfl)
  have hie:i = l.length:=by omega
  subst hie
  have c3:¬ (l.length:Int) < l.length:=by omega
  rw [rdW_all]
  have hrl:(l.map wRead).length = l.length:=List.length_map ..
  have hlen:(l.map wRead).length < 1000000:=by omega
  have ha:=fun X=>and_call1 (l.map wRead) hlen X
  have ho:=fun X=>or_call1 (l.map wRead) hlen X
  have hx:=fun X=>xor_call1 (l.map wRead) hlen X
  have hnt:=fun H w=>not_call (d:=false) H w
  have hmx:=fun H a b c=>mux_call (d:=true) H a b c
  have htr:=fun H a b=>tri_call (d:=true) H a b
  rw [hrl] at ha ho hx
  have hwe:wEval k l = wEvalR k (l.map wRead):=by unfold wEval;rw [if_neg hb,if_neg h13]
  rw [hwe]
  generalize l.map wRead = r at hrl hlen ha ho hx
  simp only [go_sem] at ha ho hx hnt hmx htr
  have hget:∀ i,i < l.length → r[i]? = some (r.getD i zW):=fun i hi=>by rw [List.getD,List.getElem?_eq_getElem (by omega)];rfl
  have hkk:k = 0 ∨ k = 1 ∨ k = 2 ∨ k = 3 ∨ k = 4 ∨ k = 5 ∨ k = 6 ∨ k = 7 ∨ k = 8 ∨ k = 9 ∨ k = 10 ∨ k = 11 ∨ k = 12 ∨ k = 14 ∨ k = 15:=by omega
  rcases hkk with rfl|rfl|rfl|rfl|rfl|rfl|rfl|rfl|rfl|rfl|rfl|rfl|rfl|rfl|rfl
  ·have hlo':0 ≤ l.length:=Nat.le_of_not_lt hlo
   (repeat first|simp only [ww]|((with_reducible first|apply xs|apply xI);(·simp +decide only [go_sem,c3,f2];rfl);with_reducible first|apply xT|apply xF|(·kernel_rfl)))
   (first|with_reducible apply fq_r|with_reducible apply fq_n);(·simp +decide only [go_sem,wEvalR]<;>rfl);(·simp +decide only [go_sem,wEvalR]<;>rfl)
  ·have hlo':0 ≤ l.length:=Nat.le_of_not_lt hlo
   (repeat first|simp only [ww]|((with_reducible first|apply xs|apply xI);(·simp +decide only [go_sem,c3,f0];rfl);with_reducible first|apply xT|apply xF|(·kernel_rfl)))
   (first|with_reducible apply fq_r|with_reducible apply fq_n);(·simp +decide only [go_sem,wEvalR]<;>rfl);(·simp +decide only [go_sem,wEvalR]<;>rfl)
  ·have hlo':0 ≤ l.length:=Nat.le_of_not_lt hlo
   (repeat first|simp only [ww]|((with_reducible first|apply xs|apply xI);(·simp +decide only [go_sem,c3,f1];rfl);with_reducible first|apply xT|apply xF|(·kernel_rfl)))
   (first|with_reducible apply fq_r|with_reducible apply fq_n);(·simp +decide only [go_sem,wEvalR]<;>rfl);(·simp +decide only [go_sem,wEvalR]<;>rfl)
  ·have hlo':1 ≤ l.length:=Nat.le_of_not_lt hlo
   have g0:=hget 0 (by omega)
   have p0:0 < l.length:=by omega
   (repeat first|simp only [ww]|((with_reducible first|apply xs|apply xI);(·simp +decide only [go_sem,c3,g0,p0];rfl);with_reducible first|apply xT|apply xF|(·kernel_rfl)))
   (first|with_reducible apply fq_r|with_reducible apply fq_n);(·simp +decide only [go_sem,wEvalR]<;>rfl);(·simp +decide only [go_sem,wEvalR]<;>rfl)
  ·have hlo':1 ≤ l.length:=Nat.le_of_not_lt hlo
   have g0:=hget 0 (by omega)
   have p0:0 < l.length:=by omega
   (repeat first|simp only [ww]|((with_reducible first|apply xs|apply xI);(·simp +decide only [go_sem,c3,hnt,g0,p0];rfl);with_reducible first|apply xT|apply xF|(·kernel_rfl)))
   (first|with_reducible apply fq_r|with_reducible apply fq_n);(·simp +decide only [go_sem,wEvalR]<;>rfl);(·simp +decide only [go_sem,wEvalR]<;>rfl)
  ·have hlo':2 ≤ l.length:=Nat.le_of_not_lt hlo
   (repeat first|simp only [ww]|((with_reducible first|apply xs|apply xI);(·simp +decide only [go_sem,c3,ha];rfl);with_reducible first|apply xT|apply xF|(·kernel_rfl)))
   (first|with_reducible apply fq_r|with_reducible apply fq_n);(·simp +decide only [go_sem,wEvalR]<;>rfl);(·simp +decide only [go_sem,wEvalR]<;>rfl)
  ·have hlo':2 ≤ l.length:=Nat.le_of_not_lt hlo
   (repeat first|simp only [ww]|((with_reducible first|apply xs|apply xI);(·simp +decide only [go_sem,c3,ha,hnt];rfl);with_reducible first|apply xT|apply xF|(·kernel_rfl)))
   (first|with_reducible apply fq_r|with_reducible apply fq_n);(·simp +decide only [go_sem,wEvalR]<;>rfl);(·simp +decide only [go_sem,wEvalR]<;>rfl)
  ·have hlo':2 ≤ l.length:=Nat.le_of_not_lt hlo
   (repeat first|simp only [ww]|((with_reducible first|apply xs|apply xI);(·simp +decide only [go_sem,c3,ho];rfl);with_reducible first|apply xT|apply xF|(·kernel_rfl)))
   (first|with_reducible apply fq_r|with_reducible apply fq_n);(·simp +decide only [go_sem,wEvalR]<;>rfl);(·simp +decide only [go_sem,wEvalR]<;>rfl)
  ·have hlo':2 ≤ l.length:=Nat.le_of_not_lt hlo
   (repeat first|simp only [ww]|((with_reducible first|apply xs|apply xI);(·simp +decide only [go_sem,c3,ho,hnt];rfl);with_reducible first|apply xT|apply xF|(·kernel_rfl)))
   (first|with_reducible apply fq_r|with_reducible apply fq_n);(·simp +decide only [go_sem,wEvalR]<;>rfl);(·simp +decide only [go_sem,wEvalR]<;>rfl)
  ·have hlo':2 ≤ l.length:=Nat.le_of_not_lt hlo
   (repeat first|simp only [ww]|((with_reducible first|apply xs|apply xI);(·simp +decide only [go_sem,c3,hx];rfl);with_reducible first|apply xT|apply xF|(·kernel_rfl)))
   (first|with_reducible apply fq_r|with_reducible apply fq_n);(·simp +decide only [go_sem,wEvalR]<;>rfl);(·simp +decide only [go_sem,wEvalR]<;>rfl)
  ·have hlo':2 ≤ l.length:=Nat.le_of_not_lt hlo
   (repeat first|simp only [ww]|((with_reducible first|apply xs|apply xI);(·simp +decide only [go_sem,c3,hx,hnt];rfl);with_reducible first|apply xT|apply xF|(·kernel_rfl)))
   (first|with_reducible apply fq_r|with_reducible apply fq_n);(·simp +decide only [go_sem,wEvalR]<;>rfl);(·simp +decide only [go_sem,wEvalR]<;>rfl)
  ·have hlo':3 ≤ l.length:=Nat.le_of_not_lt hlo
   have g0:=hget 0 (by omega)
   have p0:0 < l.length:=by omega
   have g1:=hget 1 (by omega)
   have p1:1 < l.length:=by omega
   have g2:=hget 2 (by omega)
   have p2:2 < l.length:=by omega
   (repeat first|simp only [ww]|((with_reducible first|apply xs|apply xI);(·simp +decide only [go_sem,c3,hmx,g0,p0,g1,p1,g2,p2];rfl);with_reducible first|apply xT|apply xF|(·kernel_rfl)))
   (first|with_reducible apply fq_r|with_reducible apply fq_n);(·simp +decide only [go_sem,wEvalR]<;>rfl);(·simp +decide only [go_sem,wEvalR]<;>rfl)
  ·have hlo':2 ≤ l.length:=Nat.le_of_not_lt hlo
   have g0:=hget 0 (by omega)
   have p0:0 < l.length:=by omega
   have g1:=hget 1 (by omega)
   have p1:1 < l.length:=by omega
   (repeat first|simp only [ww]|((with_reducible first|apply xs|apply xI);(·simp +decide only [go_sem,c3,htr,g0,p0,g1,p1];rfl);with_reducible first|apply xT|apply xF|(·kernel_rfl)))
   (first|with_reducible apply fq_r|with_reducible apply fq_n);(·simp +decide only [go_sem,wEvalR]<;>rfl);(·simp +decide only [go_sem,wEvalR]<;>rfl)
  ·have hlo':1 ≤ l.length:=Nat.le_of_not_lt hlo
   (repeat first|simp only [ww]|((with_reducible first|apply xs|apply xI);(·simp +decide only [go_sem,c3,f2];rfl);with_reducible first|apply xT|apply xF|(·kernel_rfl)))
   (first|with_reducible apply fq_r|with_reducible apply fq_n);(·simp +decide only [go_sem,wEvalR]<;>rfl);(·simp +decide only [go_sem,wEvalR]<;>rfl)
  ·have hlo':0 ≤ l.length:=Nat.le_of_not_lt hlo
   (repeat first|simp only [ww]|((with_reducible first|apply xs|apply xI);(·simp +decide only [go_sem,c3,f2];rfl);with_reducible first|apply xT|apply xF|(·kernel_rfl)))
   (first|with_reducible apply fq_r|with_reducible apply fq_n);(·simp +decide only [go_sem,wEvalR]<;>rfl);(·simp +decide only [go_sem,wEvalR]<;>rfl)
set_option maxHeartbeats 8000000 in
theorem eval_ok1 (k:Nat) (hk:k < 16) (l:List W) (hl:l.length < 1000):sem L.env Mf 46 [.int .u8 k,.slice 0 0 l.length (some l.length)] [some (.row 2 (l.map W.enc))] = some (.agg (wEval k l).enc,[some (.row 2 (l.map W.enc))]):=by
 have hf:=fun H=>fanin_call (d:=false) H k hk
 have f0:=fun H=>fill_lit (d:=false) H 0 (by omega) (n:=0) rfl
 have f1:=fun H=>fill_lit (d:=false) H 1 (by omega) (n:=1) rfl
 have f2:=fun H=>fill_lit (d:=false) H 2 (by omega) (n:=2) rfl
 simp only [go_sem] at f0 f1 f2
 by_cases hlo:l.length < faninLo k
 ·have c1:(l.length:Int) < faninLo k:=by omega
  rw [show wEval k l = wFill 2 by simp [wEval,hlo]]
  (refine sem_wp (code:=(Tryz.f46.body).getD .skip) (N:=113) (results:=[.cell 4 111]) (by kernel_rfl) (no _ (by rfl)) rfl rfl ?_;simp only [Tryz.f46,Option.getD_some])
  (repeat first|simp only [ww]|((with_reducible first|apply xs|apply xI);(·simp +decide only [go_sem,hf,c1,f2];rfl);with_reducible first|apply xT|apply xF|(·kernel_rfl)))
  (first|with_reducible apply fq_r|with_reducible apply fq_n);(·simp +decide only [go_sem]<;>rfl);(·simp +decide only [go_sem]<;>rfl)
 have c1:¬ (l.length:Int) < faninLo k:=by omega
 by_cases hhi:faninHi k < l.length
 ·have c2:(faninHi k:Int) < l.length:=by omega
  rw [show wEval k l = wFill 2 by simp [wEval,hhi]]
  (refine sem_wp (code:=(Tryz.f46.body).getD .skip) (N:=113) (results:=[.cell 4 111]) (by kernel_rfl) (no _ (by rfl)) rfl rfl ?_;simp only [Tryz.f46,Option.getD_some])
  (repeat first|simp only [ww]|((with_reducible first|apply xs|apply xI);(·simp +decide only [go_sem,hf,c1,c2,f2];rfl);with_reducible first|apply xT|apply xF|(·kernel_rfl)))
  (first|with_reducible apply fq_r|with_reducible apply fq_n);(·simp +decide only [go_sem]<;>rfl);(·simp +decide only [go_sem]<;>rfl)
 have c2:¬ (faninHi k:Int) < l.length:=by omega
 have hb:¬ (l.length < faninLo k ∨ faninHi k < l.length):=by omega
 by_cases h13:k = 13
 ·subst h13
  rw [show wEval 13 l = wBus l by simp [wEval,hb]]
  have hbus:=fun X=>bus_call0 l (by omega) X
  simp only [go_sem] at hbus
  (refine sem_wp (code:=(Tryz.f46.body).getD .skip) (N:=113) (results:=[.cell 4 111]) (by kernel_rfl) (no _ (by rfl)) rfl rfl ?_;simp only [Tryz.f46,Option.getD_some])
  (repeat first|simp only [ww]|((with_reducible first|apply xs|apply xI);(·simp +decide only [go_sem,hf,c1,c2,hbus];rfl);with_reducible first|apply xT|apply xF|(·kernel_rfl)))
  (first|with_reducible apply fq_r|with_reducible apply fq_n);(·simp +decide only [go_sem]<;>rfl);(·simp +decide only [go_sem]<;>rfl)
 have c13:¬ (k:Int) = 13:=by omega
 have hrm:l.length ≤ 1000000000:=by omega
 (refine sem_wp (code:=(Tryz.f46.body).getD .skip) (N:=113) (results:=[.cell 4 111]) (by kernel_rfl) (no _ (by rfl)) rfl rfl ?_;simp only [Tryz.f46,Option.getD_some])
 (repeat first|simp only [ww]|((with_reducible first|apply xs|apply xI);(·simp +decide only [go_sem,hf,c1,c2,c13,hrm];rfl);with_reducible first|apply xT|apply xF|(·kernel_rfl)))
 refine xp_loop (σ:=Nat) kp46_0 (fun i=>[(0,.int .u8 k),(4,.ptr 1 0 0),(7,.slice 2 0 l.length (some l.length)),(33,.slice 0 0 l.length (some l.length)),(34,.int .i64 l.length),(35,.int .i64 i)])
  (fun i=>[some (.row 2 (l.map W.enc)),some (.row 2 [[u64 (BitVec.ofInt 64 0),u64 (BitVec.ofInt 64 0)]]),some (.row 2 ((rdW l i).map W.enc))]) (fun i=>l.length - i) (fun i=>i ≤ l.length) 0 ?_ (Nat.zero_le _) ?_ ?_
 ·(simp +decide only [go_sem,gcD_eq,gcIds_eq,rdW_zero,zW]<;>rfl)
 ·intro i _
  (simp +decide only [go_sem,gcD_eq,gcIds_eq]<;>rfl)
 ·intro i hi
  by_cases hlt:i < l.length
  ·obtain ⟨x,hx⟩:∃ x,l[i]? = some x:=⟨_,List.getElem?_eq_getElem hlt⟩
   have c1:(i:Int) < l.length:=by omega
   have hw:=wI1 (n:=i) (by omega)
   have hs:=rdW_setR hx
   have hg:=rdW_get hlt
   have hrd:=fun H=>read_call (d:=false) H x
   simp only [go_sem] at hrd
   (repeat first|simp only [ww]|((with_reducible first|apply xs|apply xI);(·simp +decide only [go_sem,c1,hlt,hx,hw,hg,hrd,zW,hs];rfl);with_reducible first|apply xT|apply xF|(·kernel_rfl)))
   refine lp_n (i + 1) ?_ (by omega) (by omega)
   (simp +decide only [go_sem,gcD_eq,gcIds_eq]<;>rfl)
  have hie:i = l.length:=by omega
  subst hie
  have c3:¬ (l.length:Int) < l.length:=by omega
  rw [rdW_all]
  have hrl:(l.map wRead).length = l.length:=List.length_map ..
  have hlen:(l.map wRead).length < 1000000:=by omega
  have ha:=fun X Y=>and_call2 (l.map wRead) hlen X Y
  have ho:=fun X Y=>or_call2 (l.map wRead) hlen X Y
  have hx:=fun X Y=>xor_call2 (l.map wRead) hlen X Y
  have hnt:=fun H w=>not_call (d:=false) H w
  have hmx:=fun H a b c=>mux_call (d:=true) H a b c
  have htr:=fun H a b=>tri_call (d:=true) H a b
  rw [hrl] at ha ho hx
  have hwe:wEval k l = wEvalR k (l.map wRead):=by unfold wEval;rw [if_neg hb,if_neg h13]
  rw [hwe]
  generalize l.map wRead = r at hrl hlen ha ho hx
  simp only [go_sem] at ha ho hx hnt hmx htr
  have hget:∀ i,i < l.length → r[i]? = some (r.getD i zW):=fun i hi=>by rw [List.getD,List.getElem?_eq_getElem (by omega)];rfl
  have hkk:k = 0 ∨ k = 1 ∨ k = 2 ∨ k = 3 ∨ k = 4 ∨ k = 5 ∨ k = 6 ∨ k = 7 ∨ k = 8 ∨ k = 9 ∨ k = 10 ∨ k = 11 ∨ k = 12 ∨ k = 14 ∨ k = 15:=by omega
  rcases hkk with rfl|rfl|rfl|rfl|rfl|rfl|rfl|rfl|rfl|rfl|rfl|rfl|rfl|rfl|rfl
  ·have hlo':0 ≤ l.length:=Nat.le_of_not_lt hlo
   (repeat first|simp only [ww]|((with_reducible first|apply xs|apply xI);(·simp +decide only [go_sem,c3,f2];rfl);with_reducible first|apply xT|apply xF|(·kernel_rfl)))
   (first|with_reducible apply fq_r|with_reducible apply fq_n);(·simp +decide only [go_sem,wEvalR]<;>rfl);(·simp +decide only [go_sem,wEvalR]<;>rfl)
  ·have hlo':0 ≤ l.length:=Nat.le_of_not_lt hlo
   (repeat first|simp only [ww]|((with_reducible first|apply xs|apply xI);(·simp +decide only [go_sem,c3,f0];rfl);with_reducible first|apply xT|apply xF|(·kernel_rfl)))
   (first|with_reducible apply fq_r|with_reducible apply fq_n);(·simp +decide only [go_sem,wEvalR]<;>rfl);(·simp +decide only [go_sem,wEvalR]<;>rfl)
  ·have hlo':0 ≤ l.length:=Nat.le_of_not_lt hlo
   (repeat first|simp only [ww]|((with_reducible first|apply xs|apply xI);(·simp +decide only [go_sem,c3,f1];rfl);with_reducible first|apply xT|apply xF|(·kernel_rfl)))
   (first|with_reducible apply fq_r|with_reducible apply fq_n);(·simp +decide only [go_sem,wEvalR]<;>rfl);(·simp +decide only [go_sem,wEvalR]<;>rfl)
  ·have hlo':1 ≤ l.length:=Nat.le_of_not_lt hlo
   have g0:=hget 0 (by omega)
   have p0:0 < l.length:=by omega
   (repeat first|simp only [ww]|((with_reducible first|apply xs|apply xI);(·simp +decide only [go_sem,c3,g0,p0];rfl);with_reducible first|apply xT|apply xF|(·kernel_rfl)))
   (first|with_reducible apply fq_r|with_reducible apply fq_n);(·simp +decide only [go_sem,wEvalR]<;>rfl);(·simp +decide only [go_sem,wEvalR]<;>rfl)
  ·have hlo':1 ≤ l.length:=Nat.le_of_not_lt hlo
   have g0:=hget 0 (by omega)
   have p0:0 < l.length:=by omega
   (repeat first|simp only [ww]|((with_reducible first|apply xs|apply xI);(·simp +decide only [go_sem,c3,hnt,g0,p0];rfl);with_reducible first|apply xT|apply xF|(·kernel_rfl)))
   (first|with_reducible apply fq_r|with_reducible apply fq_n);(·simp +decide only [go_sem,wEvalR]<;>rfl);(·simp +decide only [go_sem,wEvalR]<;>rfl)
  ·have hlo':2 ≤ l.length:=Nat.le_of_not_lt hlo
   (repeat first|simp only [ww]|((with_reducible first|apply xs|apply xI);(·simp +decide only [go_sem,c3,ha];rfl);with_reducible first|apply xT|apply xF|(·kernel_rfl)))
   (first|with_reducible apply fq_r|with_reducible apply fq_n);(·simp +decide only [go_sem,wEvalR]<;>rfl);(·simp +decide only [go_sem,wEvalR]<;>rfl)
  ·have hlo':2 ≤ l.length:=Nat.le_of_not_lt hlo
   (repeat first|simp only [ww]|((with_reducible first|apply xs|apply xI);(·simp +decide only [go_sem,c3,ha,hnt];rfl);with_reducible first|apply xT|apply xF|(·kernel_rfl)))
   (first|with_reducible apply fq_r|with_reducible apply fq_n);(·simp +decide only [go_sem,wEvalR]<;>rfl);(·simp +decide only [go_sem,wEvalR]<;>rfl)
  ·have hlo':2 ≤ l.length:=Nat.le_of_not_lt hlo
   (repeat first|simp only [ww]|((with_reducible first|apply xs|apply xI);(·simp +decide only [go_sem,c3,ho];rfl);with_reducible first|apply xT|apply xF|(·kernel_rfl)))
   (first|with_reducible apply fq_r|with_reducible apply fq_n);(·simp +decide only [go_sem,wEvalR]<;>rfl);(·simp +decide only [go_sem,wEvalR]<;>rfl)
  ·have hlo':2 ≤ l.length:=Nat.le_of_not_lt hlo
   (repeat first|simp only [ww]|((with_reducible first|apply xs|apply xI);(·simp +decide only [go_sem,c3,ho,hnt];rfl);with_reducible first|apply xT|apply xF|(·kernel_rfl)))
   (first|with_reducible apply fq_r|with_reducible apply fq_n);(·simp +decide only [go_sem,wEvalR]<;>rfl);(·simp +decide only [go_sem,wEvalR]<;>rfl)
  ·have hlo':2 ≤ l.length:=Nat.le_of_not_lt hlo
   (repeat first|simp only [ww]|((with_reducible first|apply xs|apply xI);(·simp +decide only [go_sem,c3,hx];rfl);with_reducible first|apply xT|apply xF|(·kernel_rfl)))
   (first|with_reducible apply fq_r|with_reducible apply fq_n);(·simp +decide only [go_sem,wEvalR]<;>rfl);(·simp +decide only [go_sem,wEvalR]<;>rfl)
  ·have hlo':2 ≤ l.length:=Nat.le_of_not_lt hlo
   (repeat first|simp only [ww]|((with_reducible first|apply xs|apply xI);(·simp +decide only [go_sem,c3,hx,hnt];rfl);with_reducible first|apply xT|apply xF|(·kernel_rfl)))
   (first|with_reducible apply fq_r|with_reducible apply fq_n);(·simp +decide only [go_sem,wEvalR]<;>rfl);(·simp +decide only [go_sem,wEvalR]<;>rfl)
  ·have hlo':3 ≤ l.length:=Nat.le_of_not_lt hlo
   have g0:=hget 0 (by omega)
   have p0:0 < l.length:=by omega
   have g1:=hget 1 (by omega)
   have p1:1 < l.length:=by omega
   have g2:=hget 2 (by omega)
   have p2:2 < l.length:=by omega
   (repeat first|simp only [ww]|((with_reducible first|apply xs|apply xI);(·simp +decide only [go_sem,c3,hmx,g0,p0,g1,p1,g2,p2];rfl);with_reducible first|apply xT|apply xF|(·kernel_rfl)))
   (first|with_reducible apply fq_r|with_reducible apply fq_n);(·simp +decide only [go_sem,wEvalR]<;>rfl);(·simp +decide only [go_sem,wEvalR]<;>rfl)
  ·have hlo':2 ≤ l.length:=Nat.le_of_not_lt hlo
   have g0:=hget 0 (by omega)
   have p0:0 < l.length:=by omega
   have g1:=hget 1 (by omega)
   have p1:1 < l.length:=by omega
   (repeat first|simp only [ww]|((with_reducible first|apply xs|apply xI);(·simp +decide only [go_sem,c3,htr,g0,p0,g1,p1];rfl);with_reducible first|apply xT|apply xF|(·kernel_rfl)))
   (first|with_reducible apply fq_r|with_reducible apply fq_n);(·simp +decide only [go_sem,wEvalR]<;>rfl);(·simp +decide only [go_sem,wEvalR]<;>rfl)
  ·have hlo':1 ≤ l.length:=Nat.le_of_not_lt hlo
   (repeat first|simp only [ww]|((with_reducible first|apply xs|apply xI);(·simp +decide only [go_sem,c3,f2];rfl);with_reducible first|apply xT|apply xF|(·kernel_rfl)))
   (first|with_reducible apply fq_r|with_reducible apply fq_n);(·simp +decide only [go_sem,wEvalR]<;>rfl);(·simp +decide only [go_sem,wEvalR]<;>rfl)
  ·have hlo':0 ≤ l.length:=Nat.le_of_not_lt hlo
   (repeat first|simp only [ww]|((with_reducible first|apply xs|apply xI);(·simp +decide only [go_sem,c3,f2];rfl);with_reducible first|apply xT|apply xF|(·kernel_rfl)))
   (first|with_reducible apply fq_r|with_reducible apply fq_n);(·simp +decide only [go_sem,wEvalR]<;>rfl);(·simp +decide only [go_sem,wEvalR]<;>rfl)
end Go.ZInst
