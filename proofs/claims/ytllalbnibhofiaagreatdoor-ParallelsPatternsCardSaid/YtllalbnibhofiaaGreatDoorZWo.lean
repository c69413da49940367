/- Part of a proof. No condition. -/
import Derived.Test.YtllalbnibhofiaaGreatDoorZBase
import Derived.Test.YtllalbnibhofiaaGreatDoorPcB
set_option linter.unusedSimpArgs false
set_option linter.unusedVariables false
namespace Go.ZInst
open Go.Proofs Go.Ax Go.Pc
set_option maxRecDepth 100000
theorem bhm (v:Nat) (hv:v < 256):sem L.env Mf 74 [.int .u8 v] [] = some (.int .u8 (ac9 v:Nat),[]):=by
 by_cases h:3 < v
 ·have c:(3:Int) < v:=by omega
  rw [show ac9 v = 2 by simp [ac9,h]]
  (refine sv Tryz.f74 ?_;simp only [Tryz.f74,gS])
  (repeat first|simp only [ww]|(apply xa;simp +decide only [go_sem,c];rfl;kernel_rfl))
  (apply fqb;simp +decide only [go_sem]<;>rfl)
 ·have c:¬ (3:Int) < v:=by omega
  rw [show ac9 v = v by simp [ac9,h]]
  (refine sv Tryz.f74 ?_;simp only [Tryz.f74,gS])
  (repeat first|simp only [ww]|(apply xa;simp +decide only [go_sem,c];rfl;kernel_rfl))
  (apply fqb;simp +decide only [go_sem]<;>rfl)
theorem azq {d:Bool} (H:aa4) (v:Nat) (hv:v < 256):aaa L.env d (sem L.env Mf) (.func (.func 74) [] []) [.int .u8 v] H = some (.int .u8 (ac9 v:Nat),H,[]):=
 aa3 (by kernel_rfl) (by kernel_rfl) rfl rfl (bhm v hv) rfl
theorem brt:-BitVec.ofInt 64 0 = 0#64:=by decide
theorem brs:-BitVec.ofInt 64 1 = BitVec.allOnes 64:=by decide
theorem bma (v:Nat) (hv:v < 256):sem L.env Mf 45 [.int .u8 v] [] = some (.agg (acu v).enc,[]):=by
 have hc:=fun H=>azq (d:=false) H v hv
 have h4:ac9 v < 4:=by unfold ac9;split<;>omega
 have hw:acu v = match ac9 v with
  | 0=>⟨0#64,BitVec.allOnes 64⟩
  | 1=>⟨BitVec.allOnes 64,0#64⟩
  | 2=>⟨0#64,0#64⟩
  | _=>⟨BitVec.allOnes 64,BitVec.allOnes 64⟩:=rfl
 rw [hw]
 generalize ac9 v = c at hc h4
 have h:c = 0 ∨ c = 1 ∨ c = 2 ∨ c = 3:=by omega
 rcases h with rfl|rfl|rfl|rfl
 ·(refine sv Tryz.f45 ?_;simp only [Tryz.f45,gS])
  (repeat first|simp only [ww]|(apply xa;simp +decide only [go_sem,hc,brt,brs];rfl;kernel_rfl))
  (apply fqb;simp +decide only [go_sem]<;>rfl)
 ·(refine sv Tryz.f45 ?_;simp only [Tryz.f45,gS])
  (repeat first|simp only [ww]|(apply xa;simp +decide only [go_sem,hc,brt,brs];rfl;kernel_rfl))
  (apply fqb;simp +decide only [go_sem]<;>rfl)
 ·(refine sv Tryz.f45 ?_;simp only [Tryz.f45,gS])
  (repeat first|simp only [ww]|(apply xa;simp +decide only [go_sem,hc,brt,brs];rfl;kernel_rfl))
  (apply fqb;simp +decide only [go_sem]<;>rfl)
 ·(refine sv Tryz.f45 ?_;simp only [Tryz.f45,gS])
  (repeat first|simp only [ww]|(apply xa;simp +decide only [go_sem,hc,brt,brs];rfl;kernel_rfl))
  (apply fqb;simp +decide only [go_sem]<;>rfl)
theorem aom {d:Bool} (H:aa4) (v:Nat) (hv:v < 256):aaa L.env d (sem L.env Mf) (.func (.func 45) [] []) [.int .u8 v] H = some (.agg (acu v).enc,H,[]):=
 aa3 (by kernel_rfl) (by kernel_rfl) rfl rfl (bma v hv) rfl
theorem afn {d:Bool} (H:aa4) (v:Nat) (hv:v < 256) {n:Int} (hn:n = v):aaa L.env d (sem L.env Mf) (.func (.func 45) [] []) [.int .u8 n] H = some (.agg (acu v).enc,H,[]):=by
 subst hn;exact aom H v hv
theorem bjh (l:List W) (hl:l.length < 1000000):sem L.env Mf 79 [.slice 0 0 l.length (some l.length)] [some (.row 2 (l.map W.enc))] = some (.agg (agj beo (acu 1) l).enc,[some (.row 2 (l.map W.enc))]):=by
 have hc:=fun H=>afn (d:=false) H 1 (by omega) (n:=1) rfl
 generalize acu 1 = z at hc
 simp only [go_sem] at hc
 (refine sv Tryz.f79 ?_;simp only [Tryz.f79,gS])
 (repeat first|simp only [ww]|(apply xa;simp +decide only [go_sem,hc];rfl;kernel_rfl))
 refine abd (σ:=Nat) kp79_0 (fun i=>[(2,.ptr 1 0 0),(3,.ptr 2 0 0),(7,.slice 0 0 l.length (some l.length)),(8,.int .i64 l.length),(9,.int .i64 i)])
  (fun i=>[some (.row 2 (l.map W.enc)),some (.row 2 [[u64 (BitVec.ofInt 64 0),u64 (BitVec.ofInt 64 0)]]),some (.row 2 [(agj beo z (l.take i)).enc])]) (fun i=>l.length - i) (fun i=>i ≤ l.length) 0 ?_ (Nat.zero_le _) ?_ ?_
 ·(simp +decide only [go_sem,aa1,aa0,List.take_zero]<;>rfl)
 ·intro i _
  (simp +decide only [go_sem,aa1,aa0]<;>rfl)
 ·intro i hi
  by_cases hlt:i < l.length
  ·obtain ⟨x,hx⟩:∃ x,l[i]? = some x:=⟨_,List.getElem?_eq_getElem hlt⟩
   have c1:(i:Int) < l.length:=by omega
   have hw:=wI1 (n:=i) (by omega)
   have hs:=al8 (f:=beo) (z:=z) hx
   (repeat first|simp only [ww]|(apply xa;simp +decide only [go_sem,c1,hlt,hx,hw];rfl;kernel_rfl))
   refine ac6 (i + 1) ?_ (by omega) (by omega)
   rw [hs]
   (simp +decide only [go_sem,aa1,aa0,beo]<;>rfl)
  ·obtain rfl:i = l.length:=by omega
   have c1:¬ (l.length:Int) < l.length:=by omega
   rw [List.take_length]
   (repeat first|simp only [ww]|(apply xa;simp +decide only [go_sem,c1];rfl;kernel_rfl))
   (apply fqb;simp +decide only [go_sem]<;>rfl)
theorem bpp (l:List W) (hl:l.length < 1000000):sem L.env Mf 80 [.slice 0 0 l.length (some l.length)] [some (.row 2 (l.map W.enc))] = some (.agg (agj wOr (acu 0) l).enc,[some (.row 2 (l.map W.enc))]):=by
 have hc:=fun H=>afn (d:=false) H 0 (by omega) (n:=0) rfl
 generalize acu 0 = z at hc
 simp only [go_sem] at hc
 (refine sv Tryz.f80 ?_;simp only [Tryz.f80,gS])
 (repeat first|simp only [ww]|(apply xa;simp +decide only [go_sem,hc];rfl;kernel_rfl))
 refine abd (σ:=Nat) kp80_0 (fun i=>[(2,.ptr 1 0 0),(3,.ptr 2 0 0),(7,.slice 0 0 l.length (some l.length)),(8,.int .i64 l.length),(9,.int .i64 i)])
  (fun i=>[some (.row 2 (l.map W.enc)),some (.row 2 [[u64 (BitVec.ofInt 64 0),u64 (BitVec.ofInt 64 0)]]),some (.row 2 [(agj wOr z (l.take i)).enc])]) (fun i=>l.length - i) (fun i=>i ≤ l.length) 0 ?_ (Nat.zero_le _) ?_ ?_
 ·(simp +decide only [go_sem,aa1,aa0,List.take_zero]<;>rfl)
 ·intro i _
  (simp +decide only [go_sem,aa1,aa0]<;>rfl)
 ·intro i hi
  by_cases hlt:i < l.length
  ·obtain ⟨x,hx⟩:∃ x,l[i]? = some x:=⟨_,List.getElem?_eq_getElem hlt⟩
   have c1:(i:Int) < l.length:=by omega
   have hw:=wI1 (n:=i) (by omega)
   have hs:=al8 (f:=wOr) (z:=z) hx
   (repeat first|simp only [ww]|(apply xa;simp +decide only [go_sem,c1,hlt,hx,hw];rfl;kernel_rfl))
   refine ac6 (i + 1) ?_ (by omega) (by omega)
   rw [hs]
   (simp +decide only [go_sem,aa1,aa0,wOr]<;>rfl)
  ·obtain rfl:i = l.length:=by omega
   have c1:¬ (l.length:Int) < l.length:=by omega
   rw [List.take_length]
   (repeat first|simp only [ww]|(apply xa;simp +decide only [go_sem,c1];rfl;kernel_rfl))
   (apply fqb;simp +decide only [go_sem]<;>rfl)
theorem bid (l:List W) (hl:l.length < 1000000):sem L.env Mf 81 [.slice 0 0 l.length (some l.length)] [some (.row 2 (l.map W.enc))] = some (.agg (agj ben (acu 0) l).enc,[some (.row 2 (l.map W.enc))]):=by
 have hc:=fun H=>afn (d:=false) H 0 (by omega) (n:=0) rfl
 generalize acu 0 = z at hc
 simp only [go_sem] at hc
 (refine sv Tryz.f81 ?_;simp only [Tryz.f81,gS])
 (repeat first|simp only [ww]|(apply xa;simp +decide only [go_sem,hc];rfl;kernel_rfl))
 refine abd (σ:=Nat) kp81_0 (fun i=>[(2,.ptr 1 0 0),(3,.ptr 2 0 0),(7,.slice 0 0 l.length (some l.length)),(8,.int .i64 l.length),(9,.int .i64 i)])
  (fun i=>[some (.row 2 (l.map W.enc)),some (.row 2 [[u64 (BitVec.ofInt 64 0),u64 (BitVec.ofInt 64 0)]]),some (.row 2 [(agj ben z (l.take i)).enc])]) (fun i=>l.length - i) (fun i=>i ≤ l.length) 0 ?_ (Nat.zero_le _) ?_ ?_
 ·(simp +decide only [go_sem,aa1,aa0,List.take_zero]<;>rfl)
 ·intro i _
  (simp +decide only [go_sem,aa1,aa0]<;>rfl)
 ·intro i hi
  by_cases hlt:i < l.length
  ·obtain ⟨x,hx⟩:∃ x,l[i]? = some x:=⟨_,List.getElem?_eq_getElem hlt⟩
   have c1:(i:Int) < l.length:=by omega
   have hw:=wI1 (n:=i) (by omega)
   have hs:=al8 (f:=ben) (z:=z) hx
   (repeat first|simp only [ww]|(apply xa;simp +decide only [go_sem,c1,hlt,hx,hw];rfl;kernel_rfl))
   refine ac6 (i + 1) ?_ (by omega) (by omega)
   rw [hs]
   (simp +decide only [go_sem,aa1,aa0,ben]<;>rfl)
  ·obtain rfl:i = l.length:=by omega
   have c1:¬ (l.length:Int) < l.length:=by omega
   rw [List.take_length]
   (repeat first|simp only [ww]|(apply xa;simp +decide only [go_sem,c1];rfl;kernel_rfl))
   (apply fqb;simp +decide only [go_sem]<;>rfl)
theorem arg (a:W):sem L.env Mf 77 [.agg a.enc] [] = some (.agg (af7 a).enc,[]):=by
 (refine sv Tryz.f77 ?_;simp only [Tryz.f77,gS])
 (repeat first|simp only [ww]|(apply xa;simp +decide only [go_sem];rfl;kernel_rfl))
 (apply fqb;simp +decide only [go_sem,af7]<;>rfl)
theorem at0 {d:Bool} (H:aa4) (a:W):aaa L.env d (sem L.env Mf) (.func (.func 77) [] []) [.agg a.enc] H = some (.agg (af7 a).enc,H,[]):=
 aa3 (by kernel_rfl) (by kernel_rfl) rfl rfl (arg a) rfl
theorem bpw (a:W):sem L.env Mf 78 [.agg a.enc] [] = some (.agg (bie a).enc,[]):=by
 (refine sv Tryz.f78 ?_;simp only [Tryz.f78,gS])
 (repeat first|simp only [ww]|(apply xa;simp +decide only [go_sem];rfl;kernel_rfl))
 (apply fqb;simp +decide only [go_sem,bie]<;>rfl)
theorem awr {d:Bool} (H:aa4) (a:W):aaa L.env d (sem L.env Mf) (.func (.func 78) [] []) [.agg a.enc] H = some (.agg (bie a).enc,H,[]):=
 aa3 (by kernel_rfl) (by kernel_rfl) rfl rfl (bpw a) rfl
theorem bpz (a b c:W):sem L.env Mf 82 [.agg a.enc,.agg b.enc,.agg c.enc] [] = some (.agg (bns a b c).enc,[]):=by
 (refine sv Tryz.f82 ?_;simp only [Tryz.f82,gS])
 (repeat first|simp only [ww]|(apply xa;simp +decide only [go_sem];rfl;kernel_rfl))
 (apply fqb;simp +decide only [go_sem,bns]<;>rfl)
theorem awt {d:Bool} (H:aa4) (a b c:W):aaa L.env d (sem L.env Mf) (.func (.func 82) [] []) [.agg a.enc,.agg b.enc,.agg c.enc] H = some (.agg (bns a b c).enc,H,[]):=
 aa3 (by kernel_rfl) (by kernel_rfl) rfl rfl (bpz a b c) rfl
theorem bp2 (a b:W):sem L.env Mf 83 [.agg a.enc,.agg b.enc] [] = some (.agg (bnr a b).enc,[]):=by
 (refine sv Tryz.f83 ?_;simp only [Tryz.f83,gS])
 (repeat first|simp only [ww]|(apply xa;simp +decide only [go_sem];rfl;kernel_rfl))
 (apply fqb;simp +decide only [go_sem,bnr]<;>rfl)
theorem awe {d:Bool} (H:aa4) (a b:W):aaa L.env d (sem L.env Mf) (.func (.func 83) [] []) [.agg a.enc,.agg b.enc] H = some (.agg (bnr a b).enc,H,[]):=
 aa3 (by kernel_rfl) (by kernel_rfl) rfl rfl (bp2 a b) rfl
theorem bh3 (k:Nat) (hk:k < 16):sem L.env Mf 75 [.int .u8 k] [] = some (.tuple [.int .i64 (abl k:Nat),.int .i64 (abm k:Nat)],[]):=by
 have w:=wI (n:=k) (by omega)
 have c:¬ (16:Int) ≤ k:=by omega
 have h:k = 0 ∨ k = 1 ∨ k = 2 ∨ k = 3 ∨ k = 4 ∨ k = 5 ∨ k = 6 ∨ k = 7 ∨ k = 8 ∨ k = 9 ∨ k = 10 ∨ k = 11 ∨ k = 12 ∨ k = 13 ∨ k = 14 ∨ k = 15:=by omega
 rcases h with rfl|rfl|rfl|rfl|rfl|rfl|rfl|rfl|rfl|rfl|rfl|rfl|rfl|rfl|rfl|rfl
 all_goals
  (refine sv Tryz.f75 ?_;simp only [Tryz.f75,gS])
  (repeat first|simp only [ww]|(apply xa;simp +decide only [go_sem,w,c];rfl;kernel_rfl))
  (apply fqb;simp +decide only [go_sem]<;>rfl)
theorem bmp (c:Rep) (l:List W) (hl:l.length < 1000000):sem L.env Mf 76 [sl c (l.map W.enc)] [] = some (.agg (baf l).enc,[]):=by
 (refine sv Tryz.f76 ?_;simp only [Tryz.f76,gS])
 (repeat first|simp only [ww]|(apply xa;simp +decide only [go_sem];rfl;kernel_rfl))
 refine abd (σ:=Nat) kp76_0 (fun i=>[(2,.ptr 0 0 0),(3,u64 (azw (l.take i)).1),(4,u64 (azw (l.take i)).2.1),(5,u64 (azw (l.take i)).2.2),(8,sl c (l.map W.enc)),(9,.int .i64 l.length),(10,.int .i64 i)])
  (fun _=>[some (.row 2 [[u64 (BitVec.ofInt 64 0),u64 (BitVec.ofInt 64 0)]])]) (fun i=>l.length - i) (fun i=>i ≤ l.length) 0 ?_ (Nat.zero_le _) ?_ ?_
 ·(simp +decide only [go_sem,aa1,aa0,List.take_zero,azw,List.foldl_nil]<;>rfl)
 ·intro i _
  (simp +decide only [go_sem,aa1,aa0]<;>rfl)
 ·intro i hi
  by_cases hlt:i < l.length
  ·obtain ⟨x,hx⟩:∃ x,l[i]? = some x:=⟨_,List.getElem?_eq_getElem hlt⟩
   have c1:(i:Int) < l.length:=by omega
   have hw:=wI1 (n:=i) (by omega)
   have hs:=au8 hx
   (repeat first|simp only [ww]|(apply xa;simp +decide only [go_sem,c1,hlt,hx,hw];rfl;kernel_rfl))
   refine ac6 (i + 1) ?_ (by omega) (by omega)
   rw [hs]
   (simp +decide only [go_sem,aa1,aa0,bmq]<;>rfl)
  ·obtain rfl:i = l.length:=by omega
   have c1:¬ (l.length:Int) < l.length:=by omega
   rw [List.take_length]
   (repeat first|simp only [ww]|(apply xa;simp +decide only [go_sem,c1];rfl;kernel_rfl))
   (apply fqb;simp +decide only [go_sem,baf,bqq]<;>rfl)
theorem bmo (l:List W) (hl:l.length < 1000000):sem L.env Mf 76 [.slice 0 0 l.length (some l.length)] [some (.row 2 (l.map W.enc))] = some (.agg (baf l).enc,[some (.row 2 (l.map W.enc))]):=by
 (refine sv Tryz.f76 ?_;simp only [Tryz.f76,gS])
 (repeat first|simp only [ww]|(apply xa;simp +decide only [go_sem];rfl;kernel_rfl))
 refine abd (σ:=Nat) kp76_0 (fun i=>[(2,.ptr 1 0 0),(3,u64 (azw (l.take i)).1),(4,u64 (azw (l.take i)).2.1),(5,u64 (azw (l.take i)).2.2),(8,.slice 0 0 l.length (some l.length)),(9,.int .i64 l.length),(10,.int .i64 i)])
  (fun _=>[some (.row 2 (l.map W.enc)),some (.row 2 [[u64 (BitVec.ofInt 64 0),u64 (BitVec.ofInt 64 0)]])]) (fun i=>l.length - i) (fun i=>i ≤ l.length) 0 ?_ (Nat.zero_le _) ?_ ?_
 ·(simp +decide only [go_sem,aa1,aa0,List.take_zero,azw,List.foldl_nil]<;>rfl)
 ·intro i _
  (simp +decide only [go_sem,aa1,aa0]<;>rfl)
 ·intro i hi
  by_cases hlt:i < l.length
  ·obtain ⟨x,hx⟩:∃ x,l[i]? = some x:=⟨_,List.getElem?_eq_getElem hlt⟩
   have c1:(i:Int) < l.length:=by omega
   have hw:=wI1 (n:=i) (by omega)
   have hs:=au8 hx
   (repeat first|simp only [ww]|(apply xa;simp +decide only [go_sem,c1,hlt,hx,hw];rfl;kernel_rfl))
   refine ac6 (i + 1) ?_ (by omega) (by omega)
   rw [hs]
   (simp +decide only [go_sem,aa1,aa0,bmq]<;>rfl)
  ·obtain rfl:i = l.length:=by omega
   have c1:¬ (l.length:Int) < l.length:=by omega
   rw [List.take_length]
   (repeat first|simp only [ww]|(apply xa;simp +decide only [go_sem,c1];rfl;kernel_rfl))
   (apply fqb;simp +decide only [go_sem,baf,bqq]<;>rfl)
set_option maxHeartbeats 200000000
open Go.Proofs Go.Ax Go.Pc
set_option maxRecDepth 100000
theorem aj8 {d:Bool} (H:aa4) (k:Nat) (hk:k < 16):aaa L.env d (sem L.env Mf) (.func (.func 75) [] []) [.int .u8 k] H = some (.tuple [.int .i64 (abl k:Nat),.int .i64 (abm k:Nat)],H,[]):=
 aa3 (by kernel_rfl) (by kernel_rfl) rfl rfl (bh3 k hk) rfl
theorem bho {d:Bool} (H:aa4) (c:Rep) (l:List W) (hl:l.length < 1000000):aaa L.env d (sem L.env Mf) (.func (.func 76) [] []) [sl c (l.map W.enc)] H = some (.agg (baf l).enc,H,[]):=
 aa3 (by kernel_rfl) (by kernel_rfl) rfl (by simp only [go_sem]) (bmp c l hl) rfl
theorem bm6 (l:List W):FlatO (some (.row 2 (l.map W.enc))):=FlatO.row (bm8 l)
theorem be5 (l:List W) (hl:l.length < 1000000) (X:Option AObj):aaa L.env false (sem L.env Mf) (.func (.func 79) [] []) [.slice 1 0 l.length (some l.length)] [X,some (.row 2 (l.map W.enc))] = some (.agg (agj beo (acu 1) l).enc,[X,some (.row 2 (l.map W.enc))],[1]):=
 ae0 [1] (by kernel_rfl) (by kernel_rfl) rfl (by simp +decide only [go_sem]) rfl rfl (by intro b hb;simp only [List.mem_singleton] at hb;subst hb;exact bm6 l) (by simp +decide only [go_sem]) (by simp +decide only [go_sem]) (bjh l hl) rfl
theorem bfs (l:List W) (hl:l.length < 1000000) (X:Option AObj):aaa L.env false (sem L.env Mf) (.func (.func 80) [] []) [.slice 1 0 l.length (some l.length)] [X,some (.row 2 (l.map W.enc))] = some (.agg (agj wOr (acu 0) l).enc,[X,some (.row 2 (l.map W.enc))],[1]):=
 ae0 [1] (by kernel_rfl) (by kernel_rfl) rfl (by simp +decide only [go_sem]) rfl rfl (by intro b hb;simp only [List.mem_singleton] at hb;subst hb;exact bm6 l) (by simp +decide only [go_sem]) (by simp +decide only [go_sem]) (bpp l hl) rfl
theorem bac (l:List W) (hl:l.length < 1000000) (X:Option AObj):aaa L.env false (sem L.env Mf) (.func (.func 81) [] []) [.slice 1 0 l.length (some l.length)] [X,some (.row 2 (l.map W.enc))] = some (.agg (agj ben (acu 0) l).enc,[X,some (.row 2 (l.map W.enc))],[1]):=
 ae0 [1] (by kernel_rfl) (by kernel_rfl) rfl (by simp +decide only [go_sem]) rfl rfl (by intro b hb;simp only [List.mem_singleton] at hb;subst hb;exact bm6 l) (by simp +decide only [go_sem]) (by simp +decide only [go_sem]) (bid l hl) rfl
theorem be4 (l:List W) (hl:l.length < 1000000) (X:Option AObj) (Y:Option AObj):aaa L.env false (sem L.env Mf) (.func (.func 79) [] []) [.slice 2 0 l.length (some l.length)] [X,Y,some (.row 2 (l.map W.enc))] = some (.agg (agj beo (acu 1) l).enc,[X,Y,some (.row 2 (l.map W.enc))],[2]):=
 ae0 [2] (by kernel_rfl) (by kernel_rfl) rfl (by simp +decide only [go_sem]) rfl rfl (by intro b hb;simp only [List.mem_singleton] at hb;subst hb;exact bm6 l) (by simp +decide only [go_sem]) (by simp +decide only [go_sem]) (bjh l hl) rfl
theorem bfr (l:List W) (hl:l.length < 1000000) (X:Option AObj) (Y:Option AObj):aaa L.env false (sem L.env Mf) (.func (.func 80) [] []) [.slice 2 0 l.length (some l.length)] [X,Y,some (.row 2 (l.map W.enc))] = some (.agg (agj wOr (acu 0) l).enc,[X,Y,some (.row 2 (l.map W.enc))],[2]):=
 ae0 [2] (by kernel_rfl) (by kernel_rfl) rfl (by simp +decide only [go_sem]) rfl rfl (by intro b hb;simp only [List.mem_singleton] at hb;subst hb;exact bm6 l) (by simp +decide only [go_sem]) (by simp +decide only [go_sem]) (bpp l hl) rfl
theorem bab (l:List W) (hl:l.length < 1000000) (X:Option AObj) (Y:Option AObj):aaa L.env false (sem L.env Mf) (.func (.func 81) [] []) [.slice 2 0 l.length (some l.length)] [X,Y,some (.row 2 (l.map W.enc))] = some (.agg (agj ben (acu 0) l).enc,[X,Y,some (.row 2 (l.map W.enc))],[2]):=
 ae0 [2] (by kernel_rfl) (by kernel_rfl) rfl (by simp +decide only [go_sem]) rfl rfl (by intro b hb;simp only [List.mem_singleton] at hb;subst hb;exact bm6 l) (by simp +decide only [go_sem]) (by simp +decide only [go_sem]) (bid l hl) rfl
theorem bdt (l:List W) (hl:l.length < 1000000) (X:Option AObj):aaa L.env false (sem L.env Mf) (.func (.func 76) [] []) [.slice 0 0 l.length (some l.length)] [some (.row 2 (l.map W.enc)),X] = some (.agg (baf l).enc,[some (.row 2 (l.map W.enc)),X],[0]):=
 ae0 [0] (by kernel_rfl) (by kernel_rfl) rfl (by simp +decide only [go_sem]) rfl rfl (by intro b hb;simp only [List.mem_singleton] at hb;subst hb;exact bm6 l) (by simp +decide only [go_sem]) (by simp +decide only [go_sem]) (bmo l hl) rfl
theorem bh5 (c:Rep) (k:Nat) (hk:k < 16) (l:List W) (hl:l.length < 1000):sem L.env Mf 46 [.int .u8 k,sl c (l.map W.enc)] [] = some (.agg (ae5 k l).enc,[]):=by
 have hf:=fun H=>aj8 (d:=false) H k hk
 have f0:=fun H=>afn (d:=false) H 0 (by omega) (n:=0) rfl
 have f1:=fun H=>afn (d:=false) H 1 (by omega) (n:=1) rfl
 have f2:=fun H=>afn (d:=false) H 2 (by omega) (n:=2) rfl
 simp only [go_sem] at f0 f1 f2
 by_cases hlo:l.length < abl k
 ·have c1:(l.length:Int) < abl k:=by omega
  rw [show ae5 k l = acu 2 by simp [ae5,hlo]]
  (refine sv Tryz.f46 ?_;simp only [Tryz.f46,gS])
  (repeat first|simp only [ww]|(apply xa;simp +decide only [go_sem,hf,c1,f2];rfl;kernel_rfl))
  (apply fqb;simp +decide only [go_sem]<;>rfl)
 have c1:¬ (l.length:Int) < abl k:=by omega
 by_cases hhi:abm k < l.length
 ·have c2:(abm k:Int) < l.length:=by omega
  rw [show ae5 k l = acu 2 by simp [ae5,hhi]]
  (refine sv Tryz.f46 ?_;simp only [Tryz.f46,gS])
  (repeat first|simp only [ww]|(apply xa;simp +decide only [go_sem,hf,c1,c2,f2];rfl;kernel_rfl))
  (apply fqb;simp +decide only [go_sem]<;>rfl)
 have c2:¬ (abm k:Int) < l.length:=by omega
 have hb:¬ (l.length < abl k ∨ abm k < l.length):=by omega
 by_cases h13:k = 13
 ·subst h13
  rw [show ae5 13 l = baf l by simp [ae5,hb]]
  have hbus:=fun H=>bho (d:=false) H c l (by omega)
  simp only [go_sem] at hbus
  (refine sv Tryz.f46 ?_;simp only [Tryz.f46,gS])
  (repeat first|simp only [ww]|(apply xa;simp +decide only [go_sem,hf,c1,c2,hbus];rfl;kernel_rfl))
  (apply fqb;simp +decide only [go_sem]<;>rfl)
 have c13:¬ (k:Int) = 13:=by omega
 have hrm:l.length ≤ 1000000000:=by omega
 (refine sv Tryz.f46 ?_;simp only [Tryz.f46,gS])
 (repeat first|simp only [ww]|(apply xa;simp +decide only [go_sem,hf,c1,c2,c13,hrm];rfl;kernel_rfl))
 refine abd (σ:=Nat) kp46_0 (fun i=>[(0,.int .u8 k),(4,.ptr 0 0 0),(7,.slice 1 0 l.length (some l.length)),(33,sl c (l.map W.enc)),(34,.int .i64 l.length),(35,.int .i64 i)])
  (fun i=>[some (.row 2 [[u64 (BitVec.ofInt 64 0),u64 (BitVec.ofInt 64 0)]]),some (.row 2 ((rdW l i).map W.enc))]) (fun i=>l.length - i) (fun i=>i ≤ l.length) 0 ?_ (Nat.zero_le _) ?_ ?_
 ·(simp +decide only [go_sem,aa1,aa0,awl,zW]<;>rfl)
 ·intro i _
  (simp +decide only [go_sem,aa1,aa0]<;>rfl)
 ·intro i hi
  by_cases hlt:i < l.length
  ·obtain ⟨x,hx⟩:∃ x,l[i]? = some x:=⟨_,List.getElem?_eq_getElem hlt⟩
   have c1:(i:Int) < l.length:=by omega
   have hw:=wI1 (n:=i) (by omega)
   have hs:=awm hx
   have hg:=bbc hlt
   have hrd:=fun H=>at0 (d:=false) H x
   simp only [go_sem] at hrd
   (repeat first|simp only [ww]|(apply xa;simp +decide only [go_sem,c1,hlt,hx,hw,hg,hrd,zW,hs];rfl;kernel_rfl))
   refine ac6 (i + 1) ?_ (by omega) (by omega)
   (simp +decide only [go_sem,aa1,aa0]<;>rfl)
  have hie:i = l.length:=by omega
  subst hie
  have c3:¬ (l.length:Int) < l.length:=by omega
  rw [bbd]
  have hrl:(l.map af7).length = l.length:=List.length_map ..
  have hlen:(l.map af7).length < 1000000:=by omega
  have ha:=fun X=>be5 (l.map af7) hlen X
  have ho:=fun X=>bfs (l.map af7) hlen X
  have hx:=fun X=>bac (l.map af7) hlen X
  have hnt:=fun H w=>awr (d:=false) H w
  have hmx:=fun H a b c=>awt (d:=true) H a b c
  have htr:=fun H a b=>awe (d:=true) H a b
  rw [hrl] at ha ho hx
  have hwe:ae5 k l = abx k (l.map af7):=by unfold ae5;rw [if_neg hb,if_neg h13]
  rw [hwe]
  generalize l.map af7 = r at hrl hlen ha ho hx
  simp only [go_sem] at ha ho hx hnt hmx htr
  have hget:∀ i,i < l.length → r[i]? = some (r.getD i zW):=fun i hi=>by rw [List.getD,List.getElem?_eq_getElem (by omega)];rfl
  have hkk:k = 0 ∨ k = 1 ∨ k = 2 ∨ k = 3 ∨ k = 4 ∨ k = 5 ∨ k = 6 ∨ k = 7 ∨ k = 8 ∨ k = 9 ∨ k = 10 ∨ k = 11 ∨ k = 12 ∨ k = 14 ∨ k = 15:=by omega
  rcases hkk with rfl|rfl|rfl|rfl|rfl|rfl|rfl|rfl|rfl|rfl|rfl|rfl|rfl|rfl|rfl
  ·have hlo':0 ≤ l.length:=Nat.le_of_not_lt hlo
   (repeat first|simp only [ww]|(apply xa;simp +decide only [go_sem,c3,f2];rfl;kernel_rfl))
   (apply fqb;simp +decide only [go_sem,abx]<;>rfl)
  ·have hlo':0 ≤ l.length:=Nat.le_of_not_lt hlo
   (repeat first|simp only [ww]|(apply xa;simp +decide only [go_sem,c3,f0];rfl;kernel_rfl))
   (apply fqb;simp +decide only [go_sem,abx]<;>rfl)
  ·have hlo':0 ≤ l.length:=Nat.le_of_not_lt hlo
   (repeat first|simp only [ww]|(apply xa;simp +decide only [go_sem,c3,f1];rfl;kernel_rfl))
   (apply fqb;simp +decide only [go_sem,abx]<;>rfl)
  ·have hlo':1 ≤ l.length:=Nat.le_of_not_lt hlo
   have g0:=hget 0 (by omega)
   have p0:0 < l.length:=by omega
   (repeat first|simp only [ww]|(apply xa;simp +decide only [go_sem,c3,g0,p0];rfl;kernel_rfl))
   (apply fqb;simp +decide only [go_sem,abx]<;>rfl)
  ·have hlo':1 ≤ l.length:=Nat.le_of_not_lt hlo
   have g0:=hget 0 (by omega)
   have p0:0 < l.length:=by omega
   (repeat first|simp only [ww]|(apply xa;simp +decide only [go_sem,c3,hnt,g0,p0];rfl;kernel_rfl))
   (apply fqb;simp +decide only [go_sem,abx]<;>rfl)
  ·have hlo':2 ≤ l.length:=Nat.le_of_not_lt hlo
   (repeat first|simp only [ww]|(apply xa;simp +decide only [go_sem,c3,ha];rfl;kernel_rfl))
   (apply fqb;simp +decide only [go_sem,abx]<;>rfl)
  ·have hlo':2 ≤ l.length:=Nat.le_of_not_lt hlo
   (repeat first|simp only [ww]|(apply xa;simp +decide only [go_sem,c3,ha,hnt];rfl;kernel_rfl))
   (apply fqb;simp +decide only [go_sem,abx]<;>rfl)
  ·have hlo':2 ≤ l.length:=Nat.le_of_not_lt hlo
   (repeat first|simp only [ww]|(apply xa;simp +decide only [go_sem,c3,ho];rfl;kernel_rfl))
   (apply fqb;simp +decide only [go_sem,abx]<;>rfl)
  ·have hlo':2 ≤ l.length:=Nat.le_of_not_lt hlo
   (repeat first|simp only [ww]|(apply xa;simp +decide only [go_sem,c3,ho,hnt];rfl;kernel_rfl))
   (apply fqb;simp +decide only [go_sem,abx]<;>rfl)
  ·have hlo':2 ≤ l.length:=Nat.le_of_not_lt hlo
   (repeat first|simp only [ww]|(apply xa;simp +decide only [go_sem,c3,hx];rfl;kernel_rfl))
   (apply fqb;simp +decide only [go_sem,abx]<;>rfl)
  ·have hlo':2 ≤ l.length:=Nat.le_of_not_lt hlo
   (repeat first|simp only [ww]|(apply xa;simp +decide only [go_sem,c3,hx,hnt];rfl;kernel_rfl))
   (apply fqb;simp +decide only [go_sem,abx]<;>rfl)
  ·have hlo':3 ≤ l.length:=Nat.le_of_not_lt hlo
   have g0:=hget 0 (by omega)
   have p0:0 < l.length:=by omega
   have g1:=hget 1 (by omega)
   have p1:1 < l.length:=by omega
   have g2:=hget 2 (by omega)
   have p2:2 < l.length:=by omega
   (repeat first|simp only [ww]|(apply xa;simp +decide only [go_sem,c3,hmx,g0,p0,g1,p1,g2,p2];rfl;kernel_rfl))
   (apply fqb;simp +decide only [go_sem,abx]<;>rfl)
  ·have hlo':2 ≤ l.length:=Nat.le_of_not_lt hlo
   have g0:=hget 0 (by omega)
   have p0:0 < l.length:=by omega
   have g1:=hget 1 (by omega)
   have p1:1 < l.length:=by omega
   (repeat first|simp only [ww]|(apply xa;simp +decide only [go_sem,c3,htr,g0,p0,g1,p1];rfl;kernel_rfl))
   (apply fqb;simp +decide only [go_sem,abx]<;>rfl)
  ·have hlo':1 ≤ l.length:=Nat.le_of_not_lt hlo
   (repeat first|simp only [ww]|(apply xa;simp +decide only [go_sem,c3,f2];rfl;kernel_rfl))
   (apply fqb;simp +decide only [go_sem,abx]<;>rfl)
  ·have hlo':0 ≤ l.length:=Nat.le_of_not_lt hlo
   (repeat first|simp only [ww]|(apply xa;simp +decide only [go_sem,c3,f2];rfl;kernel_rfl))
   (apply fqb;simp +decide only [go_sem,abx]<;>rfl)
theorem bh4 (k:Nat) (hk:k < 16) (l:List W) (hl:l.length < 1000):sem L.env Mf 46 [.int .u8 k,.slice 0 0 l.length (some l.length)] [some (.row 2 (l.map W.enc))] = some (.agg (ae5 k l).enc,[some (.row 2 (l.map W.enc))]):=by
 have hf:=fun H=>aj8 (d:=false) H k hk
 have f0:=fun H=>afn (d:=false) H 0 (by omega) (n:=0) rfl
 have f1:=fun H=>afn (d:=false) H 1 (by omega) (n:=1) rfl
 have f2:=fun H=>afn (d:=false) H 2 (by omega) (n:=2) rfl
 simp only [go_sem] at f0 f1 f2
 by_cases hlo:l.length < abl k
 ·have c1:(l.length:Int) < abl k:=by omega
  rw [show ae5 k l = acu 2 by simp [ae5,hlo]]
  (refine sv Tryz.f46 ?_;simp only [Tryz.f46,gS])
  (repeat first|simp only [ww]|(apply xa;simp +decide only [go_sem,hf,c1,f2];rfl;kernel_rfl))
  (apply fqb;simp +decide only [go_sem]<;>rfl)
 have c1:¬ (l.length:Int) < abl k:=by omega
 by_cases hhi:abm k < l.length
 ·have c2:(abm k:Int) < l.length:=by omega
  rw [show ae5 k l = acu 2 by simp [ae5,hhi]]
  (refine sv Tryz.f46 ?_;simp only [Tryz.f46,gS])
  (repeat first|simp only [ww]|(apply xa;simp +decide only [go_sem,hf,c1,c2,f2];rfl;kernel_rfl))
  (apply fqb;simp +decide only [go_sem]<;>rfl)
 have c2:¬ (abm k:Int) < l.length:=by omega
 have hb:¬ (l.length < abl k ∨ abm k < l.length):=by omega
 by_cases h13:k = 13
 ·subst h13
  rw [show ae5 13 l = baf l by simp [ae5,hb]]
  have hbus:=fun X=>bdt l (by omega) X
  simp only [go_sem] at hbus
  (refine sv Tryz.f46 ?_;simp only [Tryz.f46,gS])
  (repeat first|simp only [ww]|(apply xa;simp +decide only [go_sem,hf,c1,c2,hbus];rfl;kernel_rfl))
  (apply fqb;simp +decide only [go_sem]<;>rfl)
 have c13:¬ (k:Int) = 13:=by omega
 have hrm:l.length ≤ 1000000000:=by omega
 (refine sv Tryz.f46 ?_;simp only [Tryz.f46,gS])
 (repeat first|simp only [ww]|(apply xa;simp +decide only [go_sem,hf,c1,c2,c13,hrm];rfl;kernel_rfl))
 refine abd (σ:=Nat) kp46_0 (fun i=>[(0,.int .u8 k),(4,.ptr 1 0 0),(7,.slice 2 0 l.length (some l.length)),(33,.slice 0 0 l.length (some l.length)),(34,.int .i64 l.length),(35,.int .i64 i)])
  (fun i=>[some (.row 2 (l.map W.enc)),some (.row 2 [[u64 (BitVec.ofInt 64 0),u64 (BitVec.ofInt 64 0)]]),some (.row 2 ((rdW l i).map W.enc))]) (fun i=>l.length - i) (fun i=>i ≤ l.length) 0 ?_ (Nat.zero_le _) ?_ ?_
 ·(simp +decide only [go_sem,aa1,aa0,awl,zW]<;>rfl)
 ·intro i _
  (simp +decide only [go_sem,aa1,aa0]<;>rfl)
 ·intro i hi
  by_cases hlt:i < l.length
  ·obtain ⟨x,hx⟩:∃ x,l[i]? = some x:=⟨_,List.getElem?_eq_getElem hlt⟩
   have c1:(i:Int) < l.length:=by omega
   have hw:=wI1 (n:=i) (by omega)
   have hs:=awm hx
   have hg:=bbc hlt
   have hrd:=fun H=>at0 (d:=false) H x
   simp only [go_sem] at hrd
   (repeat first|simp only [ww]|(apply xa;simp +decide only [go_sem,c1,hlt,hx,hw,hg,hrd,zW,hs];rfl;kernel_rfl))
   refine ac6 (i + 1) ?_ (by omega) (by omega)
   (simp +decide only [go_sem,aa1,aa0]<;>rfl)
  have hie:i = l.length:=by omega
  subst hie
  have c3:¬ (l.length:Int) < l.length:=by omega
  rw [bbd]
  have hrl:(l.map af7).length = l.length:=List.length_map ..
  have hlen:(l.map af7).length < 1000000:=by omega
  have ha:=fun X Y=>be4 (l.map af7) hlen X Y
  have ho:=fun X Y=>bfr (l.map af7) hlen X Y
  have hx:=fun X Y=>bab (l.map af7) hlen X Y
  have hnt:=fun H w=>awr (d:=false) H w
  have hmx:=fun H a b c=>awt (d:=true) H a b c
  have htr:=fun H a b=>awe (d:=true) H a b
  rw [hrl] at ha ho hx
  have hwe:ae5 k l = abx k (l.map af7):=by unfold ae5;rw [if_neg hb,if_neg h13]
  rw [hwe]
  generalize l.map af7 = r at hrl hlen ha ho hx
  simp only [go_sem] at ha ho hx hnt hmx htr
  have hget:∀ i,i < l.length → r[i]? = some (r.getD i zW):=fun i hi=>by rw [List.getD,List.getElem?_eq_getElem (by omega)];rfl
  have hkk:k = 0 ∨ k = 1 ∨ k = 2 ∨ k = 3 ∨ k = 4 ∨ k = 5 ∨ k = 6 ∨ k = 7 ∨ k = 8 ∨ k = 9 ∨ k = 10 ∨ k = 11 ∨ k = 12 ∨ k = 14 ∨ k = 15:=by omega
  rcases hkk with rfl|rfl|rfl|rfl|rfl|rfl|rfl|rfl|rfl|rfl|rfl|rfl|rfl|rfl|rfl
  ·have hlo':0 ≤ l.length:=Nat.le_of_not_lt hlo
   (repeat first|simp only [ww]|(apply xa;simp +decide only [go_sem,c3,f2];rfl;kernel_rfl))
   (apply fqb;simp +decide only [go_sem,abx]<;>rfl)
  ·have hlo':0 ≤ l.length:=Nat.le_of_not_lt hlo
   (repeat first|simp only [ww]|(apply xa;simp +decide only [go_sem,c3,f0];rfl;kernel_rfl))
   (apply fqb;simp +decide only [go_sem,abx]<;>rfl)
  ·have hlo':0 ≤ l.length:=Nat.le_of_not_lt hlo
   (repeat first|simp only [ww]|(apply xa;simp +decide only [go_sem,c3,f1];rfl;kernel_rfl))
   (apply fqb;simp +decide only [go_sem,abx]<;>rfl)
  ·have hlo':1 ≤ l.length:=Nat.le_of_not_lt hlo
   have g0:=hget 0 (by omega)
   have p0:0 < l.length:=by omega
   (repeat first|simp only [ww]|(apply xa;simp +decide only [go_sem,c3,g0,p0];rfl;kernel_rfl))
   (apply fqb;simp +decide only [go_sem,abx]<;>rfl)
  ·have hlo':1 ≤ l.length:=Nat.le_of_not_lt hlo
   have g0:=hget 0 (by omega)
   have p0:0 < l.length:=by omega
   (repeat first|simp only [ww]|(apply xa;simp +decide only [go_sem,c3,hnt,g0,p0];rfl;kernel_rfl))
   (apply fqb;simp +decide only [go_sem,abx]<;>rfl)
  ·have hlo':2 ≤ l.length:=Nat.le_of_not_lt hlo
   (repeat first|simp only [ww]|(apply xa;simp +decide only [go_sem,c3,ha];rfl;kernel_rfl))
   (apply fqb;simp +decide only [go_sem,abx]<;>rfl)
  ·have hlo':2 ≤ l.length:=Nat.le_of_not_lt hlo
   (repeat first|simp only [ww]|(apply xa;simp +decide only [go_sem,c3,ha,hnt];rfl;kernel_rfl))
   (apply fqb;simp +decide only [go_sem,abx]<;>rfl)
  ·have hlo':2 ≤ l.length:=Nat.le_of_not_lt hlo
   (repeat first|simp only [ww]|(apply xa;simp +decide only [go_sem,c3,ho];rfl;kernel_rfl))
   (apply fqb;simp +decide only [go_sem,abx]<;>rfl)
  ·have hlo':2 ≤ l.length:=Nat.le_of_not_lt hlo
   (repeat first|simp only [ww]|(apply xa;simp +decide only [go_sem,c3,ho,hnt];rfl;kernel_rfl))
   (apply fqb;simp +decide only [go_sem,abx]<;>rfl)
  ·have hlo':2 ≤ l.length:=Nat.le_of_not_lt hlo
   (repeat first|simp only [ww]|(apply xa;simp +decide only [go_sem,c3,hx];rfl;kernel_rfl))
   (apply fqb;simp +decide only [go_sem,abx]<;>rfl)
  ·have hlo':2 ≤ l.length:=Nat.le_of_not_lt hlo
   (repeat first|simp only [ww]|(apply xa;simp +decide only [go_sem,c3,hx,hnt];rfl;kernel_rfl))
   (apply fqb;simp +decide only [go_sem,abx]<;>rfl)
  ·have hlo':3 ≤ l.length:=Nat.le_of_not_lt hlo
   have g0:=hget 0 (by omega)
   have p0:0 < l.length:=by omega
   have g1:=hget 1 (by omega)
   have p1:1 < l.length:=by omega
   have g2:=hget 2 (by omega)
   have p2:2 < l.length:=by omega
   (repeat first|simp only [ww]|(apply xa;simp +decide only [go_sem,c3,hmx,g0,p0,g1,p1,g2,p2];rfl;kernel_rfl))
   (apply fqb;simp +decide only [go_sem,abx]<;>rfl)
  ·have hlo':2 ≤ l.length:=Nat.le_of_not_lt hlo
   have g0:=hget 0 (by omega)
   have p0:0 < l.length:=by omega
   have g1:=hget 1 (by omega)
   have p1:1 < l.length:=by omega
   (repeat first|simp only [ww]|(apply xa;simp +decide only [go_sem,c3,htr,g0,p0,g1,p1];rfl;kernel_rfl))
   (apply fqb;simp +decide only [go_sem,abx]<;>rfl)
  ·have hlo':1 ≤ l.length:=Nat.le_of_not_lt hlo
   (repeat first|simp only [ww]|(apply xa;simp +decide only [go_sem,c3,f2];rfl;kernel_rfl))
   (apply fqb;simp +decide only [go_sem,abx]<;>rfl)
  ·have hlo':0 ≤ l.length:=Nat.le_of_not_lt hlo
   (repeat first|simp only [ww]|(apply xa;simp +decide only [go_sem,c3,f2];rfl;kernel_rfl))
   (apply fqb;simp +decide only [go_sem,abx]<;>rfl)
end Go.ZInst
