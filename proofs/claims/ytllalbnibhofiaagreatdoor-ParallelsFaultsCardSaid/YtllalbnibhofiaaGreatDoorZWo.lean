/- Part of a proof. No condition. -/
import Derived.Test.YtllalbnibhofiaaGreatDoorZBase
import Derived.Test.YtllalbnibhofiaaGreatDoorPcB
set_option linter.unusedSimpArgs false
set_option linter.unusedVariables false
namespace Go.ZInst
open Go.Proofs Go.Ax Go.Pc
set_option maxRecDepth 100000
theorem d38 (v:Nat) (hv:v < 256):f7x L.env Mf 74 [.int .u8 v] [] = some (.int .u8 (a25 v:Nat),[]):=by
 by_cases h:3 < v
 ·have c:(3:Int) < v:=by omega
  rw [show a25 v = 2 by simp [a25,h]]
  (refine sv Tryz.f74 ?_;simp only [Tryz.f74,gS])
  (repeat first|simp only [ww]|(apply xa;simp +decide only [go_sem,c];rfl;kernel_rfl))
  (apply f6w;simp +decide only [go_sem]<;>rfl)
 ·have c:¬ (3:Int) < v:=by omega
  rw [show a25 v = v by simp [a25,h]]
  (refine sv Tryz.f74 ?_;simp only [Tryz.f74,gS])
  (repeat first|simp only [ww]|(apply xa;simp +decide only [go_sem,c];rfl;kernel_rfl))
  (apply f6w;simp +decide only [go_sem]<;>rfl)
theorem c52 {d:Bool} (H:a04) (v:Nat) (hv:v < 256):a0e L.env d (f7x L.env Mf) (.func (.func 74) [] []) [.int .u8 v] H = some (.int .u8 (a25 v:Nat),H,[]):=
 a03 (by kernel_rfl) (by kernel_rfl) rfl rfl (d38 v hv) rfl
theorem e39:-BitVec.ofInt 64 0 = 0#64:=by decide
theorem e38:-BitVec.ofInt 64 1 = BitVec.allOnes 64:=by decide
theorem d7e (v:Nat) (hv:v < 256):f7x L.env Mf 45 [.int .u8 v] [] = some (.agg (a1a v).enc,[]):=by
 have hc:=fun H=>c52 (d:=false) H v hv
 have h4:a25 v < 4:=by unfold a25;split<;>omega
 have hw:a1a v = match a25 v with
  | 0=>⟨0#64,BitVec.allOnes 64⟩
  | 1=>⟨BitVec.allOnes 64,0#64⟩
  | 2=>⟨0#64,0#64⟩
  | _=>⟨BitVec.allOnes 64,BitVec.allOnes 64⟩:=rfl
 rw [hw]
 generalize a25 v = c at hc h4
 have h:c = 0 ∨ c = 1 ∨ c = 2 ∨ c = 3:=by omega
 rcases h with rfl|rfl|rfl|rfl
 ·(refine sv Tryz.f45 ?_;simp only [Tryz.f45,gS])
  (repeat first|simp only [ww]|(apply xa;simp +decide only [go_sem,hc,e39,e38];rfl;kernel_rfl))
  (apply f6w;simp +decide only [go_sem]<;>rfl)
 ·(refine sv Tryz.f45 ?_;simp only [Tryz.f45,gS])
  (repeat first|simp only [ww]|(apply xa;simp +decide only [go_sem,hc,e39,e38];rfl;kernel_rfl))
  (apply f6w;simp +decide only [go_sem]<;>rfl)
 ·(refine sv Tryz.f45 ?_;simp only [Tryz.f45,gS])
  (repeat first|simp only [ww]|(apply xa;simp +decide only [go_sem,hc,e39,e38];rfl;kernel_rfl))
  (apply f6w;simp +decide only [go_sem]<;>rfl)
 ·(refine sv Tryz.f45 ?_;simp only [Tryz.f45,gS])
  (repeat first|simp only [ww]|(apply xa;simp +decide only [go_sem,hc,e39,e38];rfl;kernel_rfl))
  (apply f6w;simp +decide only [go_sem]<;>rfl)
theorem b41 {d:Bool} (H:a04) (v:Nat) (hv:v < 256):a0e L.env d (f7x L.env Mf) (.func (.func 45) [] []) [.int .u8 v] H = some (.agg (a1a v).enc,H,[]):=
 a03 (by kernel_rfl) (by kernel_rfl) rfl rfl (d7e v hv) rfl
theorem a5m {d:Bool} (H:a04) (v:Nat) (hv:v < 256) {n:Int} (hn:n = v):a0e L.env d (f7x L.env Mf) (.func (.func 45) [] []) [.int .u8 n] H = some (.agg (a1a v).enc,H,[]):=by
 subst hn;exact b41 H v hv
theorem d4y (l:List W) (hl:l.length < 1000000):f7x L.env Mf 79 [.slice 0 0 l.length (some l.length)] [some (.row 2 (l.map W.enc))] = some (.agg (a6e d04 (a1a 1) l).enc,[some (.row 2 (l.map W.enc))]):=by
 have hc:=fun H=>a5m (d:=false) H 1 (by omega) (n:=1) rfl
 generalize a1a 1 = z at hc
 simp only [go_sem] at hc
 (refine sv Tryz.f79 ?_;simp only [Tryz.f79,gS])
 (repeat first|simp only [ww]|(apply xa;simp +decide only [go_sem,hc];rfl;kernel_rfl))
 refine a19 (σ:=Nat) kp79_0 (fun i=>[(2,.ptr 1 0 0),(3,.ptr 2 0 0),(7,.slice 0 0 l.length (some l.length)),(8,.int .i64 l.length),(9,.int .i64 i)])
  (fun i=>[some (.row 2 (l.map W.enc)),some (.row 2 [[u64 (BitVec.ofInt 64 0),u64 (BitVec.ofInt 64 0)]]),some (.row 2 [(a6e d04 z (l.take i)).enc])]) (fun i=>l.length - i) (fun i=>i ≤ l.length) 0 ?_ (Nat.zero_le _) ?_ ?_
 ·(simp +decide only [go_sem,a01,a00,List.take_zero]<;>rfl)
 ·intro i _
  (simp +decide only [go_sem,a01,a00]<;>rfl)
 ·intro i hi
  by_cases hlt:i < l.length
  ·obtain ⟨x,hx⟩:∃ x,l[i]? = some x:=⟨_,List.getElem?_eq_getElem hlt⟩
   have c1:(i:Int) < l.length:=by omega
   have hw:=wI1 (n:=i) (by omega)
   have hs:=b0v (f:=d04) (z:=z) hx
   (repeat first|simp only [ww]|(apply xa;simp +decide only [go_sem,c1,hlt,hx,hw];rfl;kernel_rfl))
   refine a1w (i + 1) ?_ (by omega) (by omega)
   rw [hs]
   (simp +decide only [go_sem,a01,a00,d04]<;>rfl)
  ·obtain rfl:i = l.length:=by omega
   have c1:¬ (l.length:Int) < l.length:=by omega
   rw [List.take_length]
   (repeat first|simp only [ww]|(apply xa;simp +decide only [go_sem,c1];rfl;kernel_rfl))
   (apply f6w;simp +decide only [go_sem]<;>rfl)
theorem e0q (l:List W) (hl:l.length < 1000000):f7x L.env Mf 80 [.slice 0 0 l.length (some l.length)] [some (.row 2 (l.map W.enc))] = some (.agg (a6e wOr (a1a 0) l).enc,[some (.row 2 (l.map W.enc))]):=by
 have hc:=fun H=>a5m (d:=false) H 0 (by omega) (n:=0) rfl
 generalize a1a 0 = z at hc
 simp only [go_sem] at hc
 (refine sv Tryz.f80 ?_;simp only [Tryz.f80,gS])
 (repeat first|simp only [ww]|(apply xa;simp +decide only [go_sem,hc];rfl;kernel_rfl))
 refine a19 (σ:=Nat) kp80_0 (fun i=>[(2,.ptr 1 0 0),(3,.ptr 2 0 0),(7,.slice 0 0 l.length (some l.length)),(8,.int .i64 l.length),(9,.int .i64 i)])
  (fun i=>[some (.row 2 (l.map W.enc)),some (.row 2 [[u64 (BitVec.ofInt 64 0),u64 (BitVec.ofInt 64 0)]]),some (.row 2 [(a6e wOr z (l.take i)).enc])]) (fun i=>l.length - i) (fun i=>i ≤ l.length) 0 ?_ (Nat.zero_le _) ?_ ?_
 ·(simp +decide only [go_sem,a01,a00,List.take_zero]<;>rfl)
 ·intro i _
  (simp +decide only [go_sem,a01,a00]<;>rfl)
 ·intro i hi
  by_cases hlt:i < l.length
  ·obtain ⟨x,hx⟩:∃ x,l[i]? = some x:=⟨_,List.getElem?_eq_getElem hlt⟩
   have c1:(i:Int) < l.length:=by omega
   have hw:=wI1 (n:=i) (by omega)
   have hs:=b0v (f:=wOr) (z:=z) hx
   (repeat first|simp only [ww]|(apply xa;simp +decide only [go_sem,c1,hlt,hx,hw];rfl;kernel_rfl))
   refine a1w (i + 1) ?_ (by omega) (by omega)
   rw [hs]
   (simp +decide only [go_sem,a01,a00,wOr]<;>rfl)
  ·obtain rfl:i = l.length:=by omega
   have c1:¬ (l.length:Int) < l.length:=by omega
   rw [List.take_length]
   (repeat first|simp only [ww]|(apply xa;simp +decide only [go_sem,c1];rfl;kernel_rfl))
   (apply f6w;simp +decide only [go_sem]<;>rfl)
theorem d3y (l:List W) (hl:l.length < 1000000):f7x L.env Mf 81 [.slice 0 0 l.length (some l.length)] [some (.row 2 (l.map W.enc))] = some (.agg (a6e d03 (a1a 0) l).enc,[some (.row 2 (l.map W.enc))]):=by
 have hc:=fun H=>a5m (d:=false) H 0 (by omega) (n:=0) rfl
 generalize a1a 0 = z at hc
 simp only [go_sem] at hc
 (refine sv Tryz.f81 ?_;simp only [Tryz.f81,gS])
 (repeat first|simp only [ww]|(apply xa;simp +decide only [go_sem,hc];rfl;kernel_rfl))
 refine a19 (σ:=Nat) kp81_0 (fun i=>[(2,.ptr 1 0 0),(3,.ptr 2 0 0),(7,.slice 0 0 l.length (some l.length)),(8,.int .i64 l.length),(9,.int .i64 i)])
  (fun i=>[some (.row 2 (l.map W.enc)),some (.row 2 [[u64 (BitVec.ofInt 64 0),u64 (BitVec.ofInt 64 0)]]),some (.row 2 [(a6e d03 z (l.take i)).enc])]) (fun i=>l.length - i) (fun i=>i ≤ l.length) 0 ?_ (Nat.zero_le _) ?_ ?_
 ·(simp +decide only [go_sem,a01,a00,List.take_zero]<;>rfl)
 ·intro i _
  (simp +decide only [go_sem,a01,a00]<;>rfl)
 ·intro i hi
  by_cases hlt:i < l.length
  ·obtain ⟨x,hx⟩:∃ x,l[i]? = some x:=⟨_,List.getElem?_eq_getElem hlt⟩
   have c1:(i:Int) < l.length:=by omega
   have hw:=wI1 (n:=i) (by omega)
   have hs:=b0v (f:=d03) (z:=z) hx
   (repeat first|simp only [ww]|(apply xa;simp +decide only [go_sem,c1,hlt,hx,hw];rfl;kernel_rfl))
   refine a1w (i + 1) ?_ (by omega) (by omega)
   rw [hs]
   (simp +decide only [go_sem,a01,a00,d03]<;>rfl)
  ·obtain rfl:i = l.length:=by omega
   have c1:¬ (l.length:Int) < l.length:=by omega
   rw [List.take_length]
   (repeat first|simp only [ww]|(apply xa;simp +decide only [go_sem,c1];rfl;kernel_rfl))
   (apply f6w;simp +decide only [go_sem]<;>rfl)
theorem b72 (a:W):f7x L.env Mf 77 [.agg a.enc] [] = some (.agg (a54 a).enc,[]):=by
 (refine sv Tryz.f77 ?_;simp only [Tryz.f77,gS])
 (repeat first|simp only [ww]|(apply xa;simp +decide only [go_sem];rfl;kernel_rfl))
 (apply f6w;simp +decide only [go_sem,a54]<;>rfl)
theorem b8j {d:Bool} (H:a04) (a:W):a0e L.env d (f7x L.env Mf) (.func (.func 77) [] []) [.agg a.enc] H = some (.agg (a54 a).enc,H,[]):=
 a03 (by kernel_rfl) (by kernel_rfl) rfl rfl (b72 a) rfl
theorem e0x (a:W):f7x L.env Mf 78 [.agg a.enc] [] = some (.agg (d3z a).enc,[]):=by
 (refine sv Tryz.f78 ?_;simp only [Tryz.f78,gS])
 (repeat first|simp only [ww]|(apply xa;simp +decide only [go_sem];rfl;kernel_rfl))
 (apply f6w;simp +decide only [go_sem,d3z]<;>rfl)
theorem c2a {d:Bool} (H:a04) (a:W):a0e L.env d (f7x L.env Mf) (.func (.func 78) [] []) [.agg a.enc] H = some (.agg (d3z a).enc,H,[]):=
 a03 (by kernel_rfl) (by kernel_rfl) rfl rfl (e0x a) rfl
theorem e10 (a b c:W):f7x L.env Mf 82 [.agg a.enc,.agg b.enc,.agg c.enc] [] = some (.agg (d8v a b c).enc,[]):=by
 (refine sv Tryz.f82 ?_;simp only [Tryz.f82,gS])
 (repeat first|simp only [ww]|(apply xa;simp +decide only [go_sem];rfl;kernel_rfl))
 (apply f6w;simp +decide only [go_sem,d8v]<;>rfl)
theorem c2c {d:Bool} (H:a04) (a b c:W):a0e L.env d (f7x L.env Mf) (.func (.func 82) [] []) [.agg a.enc,.agg b.enc,.agg c.enc] H = some (.agg (d8v a b c).enc,H,[]):=
 a03 (by kernel_rfl) (by kernel_rfl) rfl rfl (e10 a b c) rfl
theorem e02 (a b:W):f7x L.env Mf 83 [.agg a.enc,.agg b.enc] [] = some (.agg (d8u a b).enc,[]):=by
 (refine sv Tryz.f83 ?_;simp only [Tryz.f83,gS])
 (repeat first|simp only [ww]|(apply xa;simp +decide only [go_sem];rfl;kernel_rfl))
 (apply f6w;simp +decide only [go_sem,d8u]<;>rfl)
theorem c1v {d:Bool} (H:a04) (a b:W):a0e L.env d (f7x L.env Mf) (.func (.func 83) [] []) [.agg a.enc,.agg b.enc] H = some (.agg (d8u a b).enc,H,[]):=
 a03 (by kernel_rfl) (by kernel_rfl) rfl rfl (e02 a b) rfl
theorem d2n (k:Nat) (hk:k < 16):f7x L.env Mf 75 [.int .u8 k] [] = some (.tuple [.int .i64 (a1h k:Nat),.int .i64 (a1i k:Nat)],[]):=by
 have w:=wI (n:=k) (by omega)
 have c:¬ (16:Int) ≤ k:=by omega
 have h:k = 0 ∨ k = 1 ∨ k = 2 ∨ k = 3 ∨ k = 4 ∨ k = 5 ∨ k = 6 ∨ k = 7 ∨ k = 8 ∨ k = 9 ∨ k = 10 ∨ k = 11 ∨ k = 12 ∨ k = 13 ∨ k = 14 ∨ k = 15:=by omega
 rcases h with rfl|rfl|rfl|rfl|rfl|rfl|rfl|rfl|rfl|rfl|rfl|rfl|rfl|rfl|rfl|rfl
 all_goals
  (refine sv Tryz.f75 ?_;simp only [Tryz.f75,gS])
  (repeat first|simp only [ww]|(apply xa;simp +decide only [go_sem,w,c];rfl;kernel_rfl))
  (apply f6w;simp +decide only [go_sem]<;>rfl)
theorem d7v (c:Rep) (l:List W) (hl:l.length < 1000000):f7x L.env Mf 76 [sl c (l.map W.enc)] [] = some (.agg (c5s l).enc,[]):=by
 (refine sv Tryz.f76 ?_;simp only [Tryz.f76,gS])
 (repeat first|simp only [ww]|(apply xa;simp +decide only [go_sem];rfl;kernel_rfl))
 refine a19 (σ:=Nat) kp76_0 (fun i=>[(2,.ptr 0 0 0),(3,u64 (c58 (l.take i)).1),(4,u64 (c58 (l.take i)).2.1),(5,u64 (c58 (l.take i)).2.2),(8,sl c (l.map W.enc)),(9,.int .i64 l.length),(10,.int .i64 i)])
  (fun _=>[some (.row 2 [[u64 (BitVec.ofInt 64 0),u64 (BitVec.ofInt 64 0)]])]) (fun i=>l.length - i) (fun i=>i ≤ l.length) 0 ?_ (Nat.zero_le _) ?_ ?_
 ·(simp +decide only [go_sem,a01,a00,List.take_zero,c58,List.foldl_nil]<;>rfl)
 ·intro i _
  (simp +decide only [go_sem,a01,a00]<;>rfl)
 ·intro i hi
  by_cases hlt:i < l.length
  ·obtain ⟨x,hx⟩:∃ x,l[i]? = some x:=⟨_,List.getElem?_eq_getElem hlt⟩
   have c1:(i:Int) < l.length:=by omega
   have hw:=wI1 (n:=i) (by omega)
   have hs:=b9t hx
   (repeat first|simp only [ww]|(apply xa;simp +decide only [go_sem,c1,hlt,hx,hw];rfl;kernel_rfl))
   refine a1w (i + 1) ?_ (by omega) (by omega)
   rw [hs]
   (simp +decide only [go_sem,a01,a00,d7w]<;>rfl)
  ·obtain rfl:i = l.length:=by omega
   have c1:¬ (l.length:Int) < l.length:=by omega
   rw [List.take_length]
   (repeat first|simp only [ww]|(apply xa;simp +decide only [go_sem,c1];rfl;kernel_rfl))
   (apply f6w;simp +decide only [go_sem,c5s,e22]<;>rfl)
theorem d7u (l:List W) (hl:l.length < 1000000):f7x L.env Mf 76 [.slice 0 0 l.length (some l.length)] [some (.row 2 (l.map W.enc))] = some (.agg (c5s l).enc,[some (.row 2 (l.map W.enc))]):=by
 (refine sv Tryz.f76 ?_;simp only [Tryz.f76,gS])
 (repeat first|simp only [ww]|(apply xa;simp +decide only [go_sem];rfl;kernel_rfl))
 refine a19 (σ:=Nat) kp76_0 (fun i=>[(2,.ptr 1 0 0),(3,u64 (c58 (l.take i)).1),(4,u64 (c58 (l.take i)).2.1),(5,u64 (c58 (l.take i)).2.2),(8,.slice 0 0 l.length (some l.length)),(9,.int .i64 l.length),(10,.int .i64 i)])
  (fun _=>[some (.row 2 (l.map W.enc)),some (.row 2 [[u64 (BitVec.ofInt 64 0),u64 (BitVec.ofInt 64 0)]])]) (fun i=>l.length - i) (fun i=>i ≤ l.length) 0 ?_ (Nat.zero_le _) ?_ ?_
 ·(simp +decide only [go_sem,a01,a00,List.take_zero,c58,List.foldl_nil]<;>rfl)
 ·intro i _
  (simp +decide only [go_sem,a01,a00]<;>rfl)
 ·intro i hi
  by_cases hlt:i < l.length
  ·obtain ⟨x,hx⟩:∃ x,l[i]? = some x:=⟨_,List.getElem?_eq_getElem hlt⟩
   have c1:(i:Int) < l.length:=by omega
   have hw:=wI1 (n:=i) (by omega)
   have hs:=b9t hx
   (repeat first|simp only [ww]|(apply xa;simp +decide only [go_sem,c1,hlt,hx,hw];rfl;kernel_rfl))
   refine a1w (i + 1) ?_ (by omega) (by omega)
   rw [hs]
   (simp +decide only [go_sem,a01,a00,d7w]<;>rfl)
  ·obtain rfl:i = l.length:=by omega
   have c1:¬ (l.length:Int) < l.length:=by omega
   rw [List.take_length]
   (repeat first|simp only [ww]|(apply xa;simp +decide only [go_sem,c1];rfl;kernel_rfl))
   (apply f6w;simp +decide only [go_sem,c5s,e22]<;>rfl)
set_option maxHeartbeats 200000000
open Go.Proofs Go.Ax Go.Pc
set_option maxRecDepth 100000
theorem a8x {d:Bool} (H:a04) (k:Nat) (hk:k < 16):a0e L.env d (f7x L.env Mf) (.func (.func 75) [] []) [.int .u8 k] H = some (.tuple [.int .i64 (a1h k:Nat),.int .i64 (a1i k:Nat)],H,[]):=
 a03 (by kernel_rfl) (by kernel_rfl) rfl rfl (d2n k hk) rfl
theorem d3a {d:Bool} (H:a04) (c:Rep) (l:List W) (hl:l.length < 1000000):a0e L.env d (f7x L.env Mf) (.func (.func 76) [] []) [sl c (l.map W.enc)] H = some (.agg (c5s l).enc,H,[]):=
 a03 (by kernel_rfl) (by kernel_rfl) rfl (by simp only [go_sem]) (d7v c l hl) rfl
theorem d7a (l:List W):FlatO (some (.row 2 (l.map W.enc))):=FlatO.row (d7c l)
theorem c9k (l:List W) (hl:l.length < 1000000) (X:Option AObj):a0e L.env false (f7x L.env Mf) (.func (.func 79) [] []) [.slice 1 0 l.length (some l.length)] [X,some (.row 2 (l.map W.enc))] = some (.agg (a6e d04 (a1a 1) l).enc,[X,some (.row 2 (l.map W.enc))],[1]):=
 a3x [1] (by kernel_rfl) (by kernel_rfl) rfl (by simp +decide only [go_sem]) rfl rfl (by intro b hb;simp only [List.mem_singleton] at hb;subst hb;exact d7a l) (by simp +decide only [go_sem]) (by simp +decide only [go_sem]) (d4y l hl) rfl
theorem d1d (l:List W) (hl:l.length < 1000000) (X:Option AObj):a0e L.env false (f7x L.env Mf) (.func (.func 80) [] []) [.slice 1 0 l.length (some l.length)] [X,some (.row 2 (l.map W.enc))] = some (.agg (a6e wOr (a1a 0) l).enc,[X,some (.row 2 (l.map W.enc))],[1]):=
 a3x [1] (by kernel_rfl) (by kernel_rfl) rfl (by simp +decide only [go_sem]) rfl rfl (by intro b hb;simp only [List.mem_singleton] at hb;subst hb;exact d7a l) (by simp +decide only [go_sem]) (by simp +decide only [go_sem]) (e0q l hl) rfl
theorem c5p (l:List W) (hl:l.length < 1000000) (X:Option AObj):a0e L.env false (f7x L.env Mf) (.func (.func 81) [] []) [.slice 1 0 l.length (some l.length)] [X,some (.row 2 (l.map W.enc))] = some (.agg (a6e d03 (a1a 0) l).enc,[X,some (.row 2 (l.map W.enc))],[1]):=
 a3x [1] (by kernel_rfl) (by kernel_rfl) rfl (by simp +decide only [go_sem]) rfl rfl (by intro b hb;simp only [List.mem_singleton] at hb;subst hb;exact d7a l) (by simp +decide only [go_sem]) (by simp +decide only [go_sem]) (d3y l hl) rfl
theorem c9j (l:List W) (hl:l.length < 1000000) (X:Option AObj) (Y:Option AObj):a0e L.env false (f7x L.env Mf) (.func (.func 79) [] []) [.slice 2 0 l.length (some l.length)] [X,Y,some (.row 2 (l.map W.enc))] = some (.agg (a6e d04 (a1a 1) l).enc,[X,Y,some (.row 2 (l.map W.enc))],[2]):=
 a3x [2] (by kernel_rfl) (by kernel_rfl) rfl (by simp +decide only [go_sem]) rfl rfl (by intro b hb;simp only [List.mem_singleton] at hb;subst hb;exact d7a l) (by simp +decide only [go_sem]) (by simp +decide only [go_sem]) (d4y l hl) rfl
theorem d1c (l:List W) (hl:l.length < 1000000) (X:Option AObj) (Y:Option AObj):a0e L.env false (f7x L.env Mf) (.func (.func 80) [] []) [.slice 2 0 l.length (some l.length)] [X,Y,some (.row 2 (l.map W.enc))] = some (.agg (a6e wOr (a1a 0) l).enc,[X,Y,some (.row 2 (l.map W.enc))],[2]):=
 a3x [2] (by kernel_rfl) (by kernel_rfl) rfl (by simp +decide only [go_sem]) rfl rfl (by intro b hb;simp only [List.mem_singleton] at hb;subst hb;exact d7a l) (by simp +decide only [go_sem]) (by simp +decide only [go_sem]) (e0q l hl) rfl
theorem c5o (l:List W) (hl:l.length < 1000000) (X:Option AObj) (Y:Option AObj):a0e L.env false (f7x L.env Mf) (.func (.func 81) [] []) [.slice 2 0 l.length (some l.length)] [X,Y,some (.row 2 (l.map W.enc))] = some (.agg (a6e d03 (a1a 0) l).enc,[X,Y,some (.row 2 (l.map W.enc))],[2]):=
 a3x [2] (by kernel_rfl) (by kernel_rfl) rfl (by simp +decide only [go_sem]) rfl rfl (by intro b hb;simp only [List.mem_singleton] at hb;subst hb;exact d7a l) (by simp +decide only [go_sem]) (by simp +decide only [go_sem]) (d3y l hl) rfl
theorem c98 (l:List W) (hl:l.length < 1000000) (X:Option AObj):a0e L.env false (f7x L.env Mf) (.func (.func 76) [] []) [.slice 0 0 l.length (some l.length)] [some (.row 2 (l.map W.enc)),X] = some (.agg (c5s l).enc,[some (.row 2 (l.map W.enc)),X],[0]):=
 a3x [0] (by kernel_rfl) (by kernel_rfl) rfl (by simp +decide only [go_sem]) rfl rfl (by intro b hb;simp only [List.mem_singleton] at hb;subst hb;exact d7a l) (by simp +decide only [go_sem]) (by simp +decide only [go_sem]) (d7u l hl) rfl
theorem d2p (c:Rep) (k:Nat) (hk:k < 16) (l:List W) (hl:l.length < 1000):f7x L.env Mf 46 [.int .u8 k,sl c (l.map W.enc)] [] = some (.agg (a44 k l).enc,[]):=by
 have hf:=fun H=>a8x (d:=false) H k hk
 have f0:=fun H=>a5m (d:=false) H 0 (by omega) (n:=0) rfl
 have f1:=fun H=>a5m (d:=false) H 1 (by omega) (n:=1) rfl
 have f2:=fun H=>a5m (d:=false) H 2 (by omega) (n:=2) rfl
 simp only [go_sem] at f0 f1 f2
 by_cases hlo:l.length < a1h k
 ·have c1:(l.length:Int) < a1h k:=by omega
  rw [show a44 k l = a1a 2 by simp [a44,hlo]]
  (refine sv Tryz.f46 ?_;simp only [Tryz.f46,gS])
  (repeat first|simp only [ww]|(apply xa;simp +decide only [go_sem,hf,c1,f2];rfl;kernel_rfl))
  (apply f6w;simp +decide only [go_sem]<;>rfl)
 have c1:¬ (l.length:Int) < a1h k:=by omega
 by_cases hhi:a1i k < l.length
 ·have c2:(a1i k:Int) < l.length:=by omega
  rw [show a44 k l = a1a 2 by simp [a44,hhi]]
  (refine sv Tryz.f46 ?_;simp only [Tryz.f46,gS])
  (repeat first|simp only [ww]|(apply xa;simp +decide only [go_sem,hf,c1,c2,f2];rfl;kernel_rfl))
  (apply f6w;simp +decide only [go_sem]<;>rfl)
 have c2:¬ (a1i k:Int) < l.length:=by omega
 have hb:¬ (l.length < a1h k ∨ a1i k < l.length):=by omega
 by_cases h13:k = 13
 ·subst h13
  rw [show a44 13 l = c5s l by simp [a44,hb]]
  have hbus:=fun H=>d3a (d:=false) H c l (by omega)
  simp only [go_sem] at hbus
  (refine sv Tryz.f46 ?_;simp only [Tryz.f46,gS])
  (repeat first|simp only [ww]|(apply xa;simp +decide only [go_sem,hf,c1,c2,hbus];rfl;kernel_rfl))
  (apply f6w;simp +decide only [go_sem]<;>rfl)
 have c13:¬ (k:Int) = 13:=by omega
 have hrm:l.length ≤ 1000000000:=by omega
 (refine sv Tryz.f46 ?_;simp only [Tryz.f46,gS])
 (repeat first|simp only [ww]|(apply xa;simp +decide only [go_sem,hf,c1,c2,c13,hrm];rfl;kernel_rfl))
 refine a19 (σ:=Nat) kp46_0 (fun i=>[(0,.int .u8 k),(4,.ptr 0 0 0),(7,.slice 1 0 l.length (some l.length)),(33,sl c (l.map W.enc)),(34,.int .i64 l.length),(35,.int .i64 i)])
  (fun i=>[some (.row 2 [[u64 (BitVec.ofInt 64 0),u64 (BitVec.ofInt 64 0)]]),some (.row 2 ((rdW l i).map W.enc))]) (fun i=>l.length - i) (fun i=>i ≤ l.length) 0 ?_ (Nat.zero_le _) ?_ ?_
 ·(simp +decide only [go_sem,a01,a00,c24,zW]<;>rfl)
 ·intro i _
  (simp +decide only [go_sem,a01,a00]<;>rfl)
 ·intro i hi
  by_cases hlt:i < l.length
  ·obtain ⟨x,hx⟩:∃ x,l[i]? = some x:=⟨_,List.getElem?_eq_getElem hlt⟩
   have c1:(i:Int) < l.length:=by omega
   have hw:=wI1 (n:=i) (by omega)
   have hs:=c25 hx
   have hg:=c6o hlt
   have hrd:=fun H=>b8j (d:=false) H x
   simp only [go_sem] at hrd
   (repeat first|simp only [ww]|(apply xa;simp +decide only [go_sem,c1,hlt,hx,hw,hg,hrd,zW,hs];rfl;kernel_rfl))
   refine a1w (i + 1) ?_ (by omega) (by omega)
   (simp +decide only [go_sem,a01,a00]<;>rfl)
  have hie:i = l.length:=by omega
  subst hie
  have c3:¬ (l.length:Int) < l.length:=by omega
  rw [c6p]
  have hrl:(l.map a54).length = l.length:=List.length_map ..
  have hlen:(l.map a54).length < 1000000:=by omega
  have ha:=fun X=>c9k (l.map a54) hlen X
  have ho:=fun X=>d1d (l.map a54) hlen X
  have hx:=fun X=>c5p (l.map a54) hlen X
  have hnt:=fun H w=>c2a (d:=false) H w
  have hmx:=fun H a b c=>c2c (d:=true) H a b c
  have htr:=fun H a b=>c1v (d:=true) H a b
  rw [hrl] at ha ho hx
  have hwe:a44 k l = a1t k (l.map a54):=by unfold a44;rw [if_neg hb,if_neg h13]
  rw [hwe]
  generalize l.map a54 = r at hrl hlen ha ho hx
  simp only [go_sem] at ha ho hx hnt hmx htr
  have hget:∀ i,i < l.length → r[i]? = some (r.getD i zW):=fun i hi=>by rw [List.getD,List.getElem?_eq_getElem (by omega)];rfl
  have hkk:k = 0 ∨ k = 1 ∨ k = 2 ∨ k = 3 ∨ k = 4 ∨ k = 5 ∨ k = 6 ∨ k = 7 ∨ k = 8 ∨ k = 9 ∨ k = 10 ∨ k = 11 ∨ k = 12 ∨ k = 14 ∨ k = 15:=by omega
  rcases hkk with rfl|rfl|rfl|rfl|rfl|rfl|rfl|rfl|rfl|rfl|rfl|rfl|rfl|rfl|rfl
  ·have hlo':0 ≤ l.length:=Nat.le_of_not_lt hlo
   (repeat first|simp only [ww]|(apply xa;simp +decide only [go_sem,c3,f2];rfl;kernel_rfl))
   (apply f6w;simp +decide only [go_sem,a1t]<;>rfl)
  ·have hlo':0 ≤ l.length:=Nat.le_of_not_lt hlo
   (repeat first|simp only [ww]|(apply xa;simp +decide only [go_sem,c3,f0];rfl;kernel_rfl))
   (apply f6w;simp +decide only [go_sem,a1t]<;>rfl)
  ·have hlo':0 ≤ l.length:=Nat.le_of_not_lt hlo
   (repeat first|simp only [ww]|(apply xa;simp +decide only [go_sem,c3,f1];rfl;kernel_rfl))
   (apply f6w;simp +decide only [go_sem,a1t]<;>rfl)
  ·have hlo':1 ≤ l.length:=Nat.le_of_not_lt hlo
   have g0:=hget 0 (by omega)
   have p0:0 < l.length:=by omega
   (repeat first|simp only [ww]|(apply xa;simp +decide only [go_sem,c3,g0,p0];rfl;kernel_rfl))
   (apply f6w;simp +decide only [go_sem,a1t]<;>rfl)
  ·have hlo':1 ≤ l.length:=Nat.le_of_not_lt hlo
   have g0:=hget 0 (by omega)
   have p0:0 < l.length:=by omega
   (repeat first|simp only [ww]|(apply xa;simp +decide only [go_sem,c3,hnt,g0,p0];rfl;kernel_rfl))
   (apply f6w;simp +decide only [go_sem,a1t]<;>rfl)
  ·have hlo':2 ≤ l.length:=Nat.le_of_not_lt hlo
   (repeat first|simp only [ww]|(apply xa;simp +decide only [go_sem,c3,ha];rfl;kernel_rfl))
   (apply f6w;simp +decide only [go_sem,a1t]<;>rfl)
  ·have hlo':2 ≤ l.length:=Nat.le_of_not_lt hlo
   (repeat first|simp only [ww]|(apply xa;simp +decide only [go_sem,c3,ha,hnt];rfl;kernel_rfl))
   (apply f6w;simp +decide only [go_sem,a1t]<;>rfl)
  ·have hlo':2 ≤ l.length:=Nat.le_of_not_lt hlo
   (repeat first|simp only [ww]|(apply xa;simp +decide only [go_sem,c3,ho];rfl;kernel_rfl))
   (apply f6w;simp +decide only [go_sem,a1t]<;>rfl)
  ·have hlo':2 ≤ l.length:=Nat.le_of_not_lt hlo
   (repeat first|simp only [ww]|(apply xa;simp +decide only [go_sem,c3,ho,hnt];rfl;kernel_rfl))
   (apply f6w;simp +decide only [go_sem,a1t]<;>rfl)
  ·have hlo':2 ≤ l.length:=Nat.le_of_not_lt hlo
   (repeat first|simp only [ww]|(apply xa;simp +decide only [go_sem,c3,hx];rfl;kernel_rfl))
   (apply f6w;simp +decide only [go_sem,a1t]<;>rfl)
  ·have hlo':2 ≤ l.length:=Nat.le_of_not_lt hlo
   (repeat first|simp only [ww]|(apply xa;simp +decide only [go_sem,c3,hx,hnt];rfl;kernel_rfl))
   (apply f6w;simp +decide only [go_sem,a1t]<;>rfl)
  ·have hlo':3 ≤ l.length:=Nat.le_of_not_lt hlo
   have g0:=hget 0 (by omega)
   have p0:0 < l.length:=by omega
   have g1:=hget 1 (by omega)
   have p1:1 < l.length:=by omega
   have g2:=hget 2 (by omega)
   have p2:2 < l.length:=by omega
   (repeat first|simp only [ww]|(apply xa;simp +decide only [go_sem,c3,hmx,g0,p0,g1,p1,g2,p2];rfl;kernel_rfl))
   (apply f6w;simp +decide only [go_sem,a1t]<;>rfl)
  ·have hlo':2 ≤ l.length:=Nat.le_of_not_lt hlo
   have g0:=hget 0 (by omega)
   have p0:0 < l.length:=by omega
   have g1:=hget 1 (by omega)
   have p1:1 < l.length:=by omega
   (repeat first|simp only [ww]|(apply xa;simp +decide only [go_sem,c3,htr,g0,p0,g1,p1];rfl;kernel_rfl))
   (apply f6w;simp +decide only [go_sem,a1t]<;>rfl)
  ·have hlo':1 ≤ l.length:=Nat.le_of_not_lt hlo
   (repeat first|simp only [ww]|(apply xa;simp +decide only [go_sem,c3,f2];rfl;kernel_rfl))
   (apply f6w;simp +decide only [go_sem,a1t]<;>rfl)
  ·have hlo':0 ≤ l.length:=Nat.le_of_not_lt hlo
   (repeat first|simp only [ww]|(apply xa;simp +decide only [go_sem,c3,f2];rfl;kernel_rfl))
   (apply f6w;simp +decide only [go_sem,a1t]<;>rfl)
theorem d2o (k:Nat) (hk:k < 16) (l:List W) (hl:l.length < 1000):f7x L.env Mf 46 [.int .u8 k,.slice 0 0 l.length (some l.length)] [some (.row 2 (l.map W.enc))] = some (.agg (a44 k l).enc,[some (.row 2 (l.map W.enc))]):=by
 have hf:=fun H=>a8x (d:=false) H k hk
 have f0:=fun H=>a5m (d:=false) H 0 (by omega) (n:=0) rfl
 have f1:=fun H=>a5m (d:=false) H 1 (by omega) (n:=1) rfl
 have f2:=fun H=>a5m (d:=false) H 2 (by omega) (n:=2) rfl
 simp only [go_sem] at f0 f1 f2
 by_cases hlo:l.length < a1h k
 ·have c1:(l.length:Int) < a1h k:=by omega
  rw [show a44 k l = a1a 2 by simp [a44,hlo]]
  (refine sv Tryz.f46 ?_;simp only [Tryz.f46,gS])
  (repeat first|simp only [ww]|(apply xa;simp +decide only [go_sem,hf,c1,f2];rfl;kernel_rfl))
  (apply f6w;simp +decide only [go_sem]<;>rfl)
 have c1:¬ (l.length:Int) < a1h k:=by omega
 by_cases hhi:a1i k < l.length
 ·have c2:(a1i k:Int) < l.length:=by omega
  rw [show a44 k l = a1a 2 by simp [a44,hhi]]
  (refine sv Tryz.f46 ?_;simp only [Tryz.f46,gS])
  (repeat first|simp only [ww]|(apply xa;simp +decide only [go_sem,hf,c1,c2,f2];rfl;kernel_rfl))
  (apply f6w;simp +decide only [go_sem]<;>rfl)
 have c2:¬ (a1i k:Int) < l.length:=by omega
 have hb:¬ (l.length < a1h k ∨ a1i k < l.length):=by omega
 by_cases h13:k = 13
 ·subst h13
  rw [show a44 13 l = c5s l by simp [a44,hb]]
  have hbus:=fun X=>c98 l (by omega) X
  simp only [go_sem] at hbus
  (refine sv Tryz.f46 ?_;simp only [Tryz.f46,gS])
  (repeat first|simp only [ww]|(apply xa;simp +decide only [go_sem,hf,c1,c2,hbus];rfl;kernel_rfl))
  (apply f6w;simp +decide only [go_sem]<;>rfl)
 have c13:¬ (k:Int) = 13:=by omega
 have hrm:l.length ≤ 1000000000:=by omega
 (refine sv Tryz.f46 ?_;simp only [Tryz.f46,gS])
 (repeat first|simp only [ww]|(apply xa;simp +decide only [go_sem,hf,c1,c2,c13,hrm];rfl;kernel_rfl))
 refine a19 (σ:=Nat) kp46_0 (fun i=>[(0,.int .u8 k),(4,.ptr 1 0 0),(7,.slice 2 0 l.length (some l.length)),(33,.slice 0 0 l.length (some l.length)),(34,.int .i64 l.length),(35,.int .i64 i)])
  (fun i=>[some (.row 2 (l.map W.enc)),some (.row 2 [[u64 (BitVec.ofInt 64 0),u64 (BitVec.ofInt 64 0)]]),some (.row 2 ((rdW l i).map W.enc))]) (fun i=>l.length - i) (fun i=>i ≤ l.length) 0 ?_ (Nat.zero_le _) ?_ ?_
 ·(simp +decide only [go_sem,a01,a00,c24,zW]<;>rfl)
 ·intro i _
  (simp +decide only [go_sem,a01,a00]<;>rfl)
 ·intro i hi
  by_cases hlt:i < l.length
  ·obtain ⟨x,hx⟩:∃ x,l[i]? = some x:=⟨_,List.getElem?_eq_getElem hlt⟩
   have c1:(i:Int) < l.length:=by omega
   have hw:=wI1 (n:=i) (by omega)
   have hs:=c25 hx
   have hg:=c6o hlt
   have hrd:=fun H=>b8j (d:=false) H x
   simp only [go_sem] at hrd
   (repeat first|simp only [ww]|(apply xa;simp +decide only [go_sem,c1,hlt,hx,hw,hg,hrd,zW,hs];rfl;kernel_rfl))
   refine a1w (i + 1) ?_ (by omega) (by omega)
   (simp +decide only [go_sem,a01,a00]<;>rfl)
  have hie:i = l.length:=by omega
  subst hie
  have c3:¬ (l.length:Int) < l.length:=by omega
  rw [c6p]
  have hrl:(l.map a54).length = l.length:=List.length_map ..
  have hlen:(l.map a54).length < 1000000:=by omega
  have ha:=fun X Y=>c9j (l.map a54) hlen X Y
  have ho:=fun X Y=>d1c (l.map a54) hlen X Y
  have hx:=fun X Y=>c5o (l.map a54) hlen X Y
  have hnt:=fun H w=>c2a (d:=false) H w
  have hmx:=fun H a b c=>c2c (d:=true) H a b c
  have htr:=fun H a b=>c1v (d:=true) H a b
  rw [hrl] at ha ho hx
  have hwe:a44 k l = a1t k (l.map a54):=by unfold a44;rw [if_neg hb,if_neg h13]
  rw [hwe]
  generalize l.map a54 = r at hrl hlen ha ho hx
  simp only [go_sem] at ha ho hx hnt hmx htr
  have hget:∀ i,i < l.length → r[i]? = some (r.getD i zW):=fun i hi=>by rw [List.getD,List.getElem?_eq_getElem (by omega)];rfl
  have hkk:k = 0 ∨ k = 1 ∨ k = 2 ∨ k = 3 ∨ k = 4 ∨ k = 5 ∨ k = 6 ∨ k = 7 ∨ k = 8 ∨ k = 9 ∨ k = 10 ∨ k = 11 ∨ k = 12 ∨ k = 14 ∨ k = 15:=by omega
  rcases hkk with rfl|rfl|rfl|rfl|rfl|rfl|rfl|rfl|rfl|rfl|rfl|rfl|rfl|rfl|rfl
  ·have hlo':0 ≤ l.length:=Nat.le_of_not_lt hlo
   (repeat first|simp only [ww]|(apply xa;simp +decide only [go_sem,c3,f2];rfl;kernel_rfl))
   (apply f6w;simp +decide only [go_sem,a1t]<;>rfl)
  ·have hlo':0 ≤ l.length:=Nat.le_of_not_lt hlo
   (repeat first|simp only [ww]|(apply xa;simp +decide only [go_sem,c3,f0];rfl;kernel_rfl))
   (apply f6w;simp +decide only [go_sem,a1t]<;>rfl)
  ·have hlo':0 ≤ l.length:=Nat.le_of_not_lt hlo
   (repeat first|simp only [ww]|(apply xa;simp +decide only [go_sem,c3,f1];rfl;kernel_rfl))
   (apply f6w;simp +decide only [go_sem,a1t]<;>rfl)
  ·have hlo':1 ≤ l.length:=Nat.le_of_not_lt hlo
   have g0:=hget 0 (by omega)
   have p0:0 < l.length:=by omega
   (repeat first|simp only [ww]|(apply xa;simp +decide only [go_sem,c3,g0,p0];rfl;kernel_rfl))
   (apply f6w;simp +decide only [go_sem,a1t]<;>rfl)
  ·have hlo':1 ≤ l.length:=Nat.le_of_not_lt hlo
   have g0:=hget 0 (by omega)
   have p0:0 < l.length:=by omega
   (repeat first|simp only [ww]|(apply xa;simp +decide only [go_sem,c3,hnt,g0,p0];rfl;kernel_rfl))
   (apply f6w;simp +decide only [go_sem,a1t]<;>rfl)
  ·have hlo':2 ≤ l.length:=Nat.le_of_not_lt hlo
   (repeat first|simp only [ww]|(apply xa;simp +decide only [go_sem,c3,ha];rfl;kernel_rfl))
   (apply f6w;simp +decide only [go_sem,a1t]<;>rfl)
  ·have hlo':2 ≤ l.length:=Nat.le_of_not_lt hlo
   (repeat first|simp only [ww]|(apply xa;simp +decide only [go_sem,c3,ha,hnt];rfl;kernel_rfl))
   (apply f6w;simp +decide only [go_sem,a1t]<;>rfl)
  ·have hlo':2 ≤ l.length:=Nat.le_of_not_lt hlo
   (repeat first|simp only [ww]|(apply xa;simp +decide only [go_sem,c3,ho];rfl;kernel_rfl))
   (apply f6w;simp +decide only [go_sem,a1t]<;>rfl)
  ·have hlo':2 ≤ l.length:=Nat.le_of_not_lt hlo
   (repeat first|simp only [ww]|(apply xa;simp +decide only [go_sem,c3,ho,hnt];rfl;kernel_rfl))
   (apply f6w;simp +decide only [go_sem,a1t]<;>rfl)
  ·have hlo':2 ≤ l.length:=Nat.le_of_not_lt hlo
   (repeat first|simp only [ww]|(apply xa;simp +decide only [go_sem,c3,hx];rfl;kernel_rfl))
   (apply f6w;simp +decide only [go_sem,a1t]<;>rfl)
  ·have hlo':2 ≤ l.length:=Nat.le_of_not_lt hlo
   (repeat first|simp only [ww]|(apply xa;simp +decide only [go_sem,c3,hx,hnt];rfl;kernel_rfl))
   (apply f6w;simp +decide only [go_sem,a1t]<;>rfl)
  ·have hlo':3 ≤ l.length:=Nat.le_of_not_lt hlo
   have g0:=hget 0 (by omega)
   have p0:0 < l.length:=by omega
   have g1:=hget 1 (by omega)
   have p1:1 < l.length:=by omega
   have g2:=hget 2 (by omega)
   have p2:2 < l.length:=by omega
   (repeat first|simp only [ww]|(apply xa;simp +decide only [go_sem,c3,hmx,g0,p0,g1,p1,g2,p2];rfl;kernel_rfl))
   (apply f6w;simp +decide only [go_sem,a1t]<;>rfl)
  ·have hlo':2 ≤ l.length:=Nat.le_of_not_lt hlo
   have g0:=hget 0 (by omega)
   have p0:0 < l.length:=by omega
   have g1:=hget 1 (by omega)
   have p1:1 < l.length:=by omega
   (repeat first|simp only [ww]|(apply xa;simp +decide only [go_sem,c3,htr,g0,p0,g1,p1];rfl;kernel_rfl))
   (apply f6w;simp +decide only [go_sem,a1t]<;>rfl)
  ·have hlo':1 ≤ l.length:=Nat.le_of_not_lt hlo
   (repeat first|simp only [ww]|(apply xa;simp +decide only [go_sem,c3,f2];rfl;kernel_rfl))
   (apply f6w;simp +decide only [go_sem,a1t]<;>rfl)
  ·have hlo':0 ≤ l.length:=Nat.le_of_not_lt hlo
   (repeat first|simp only [ww]|(apply xa;simp +decide only [go_sem,c3,f2];rfl;kernel_rfl))
   (apply f6w;simp +decide only [go_sem,a1t]<;>rfl)
end Go.ZInst
