/- Part of a proof. No condition. -/
import Derived.Test.YtgmenpackpnmaaaGreatDoorMBase
import Derived.Test.YtgmenpackpnmaaaGreatDoorPcB
set_option linter.unusedSimpArgs false
set_option linter.unusedVariables false
namespace Go.MInst
open Go.Proofs Go.Ax Go.Pc
set_option maxRecDepth 100000
theorem d4f (v:Nat) (hv:v < 256):sem L.env Mf 148 [.int .u8 v] [] = some (.int .u8 (a26 v:Nat),[]):=by
 by_cases h:3 < v
 ·have c:(3:Int) < v:=by omega
  rw [show a26 v = 2 by simp [a26,h]]
  (refine sv Tryz.f148 ?_;simp only [Tryz.f148,gS])
  (repeat first|simp only [ww]|(apply xa;simp +decide only [go_sem,c];rfl;kernel_rfl))
  (apply fqb;simp +decide only [go_sem]<;>rfl)
 ·have c:¬ (3:Int) < v:=by omega
  rw [show a26 v = v by simp [a26,h]]
  (refine sv Tryz.f148 ?_;simp only [Tryz.f148,gS])
  (repeat first|simp only [ww]|(apply xa;simp +decide only [go_sem,c];rfl;kernel_rfl))
  (apply fqb;simp +decide only [go_sem]<;>rfl)
theorem c5i {d:Bool} (H:a05) (v:Nat) (hv:v < 256):a0c L.env d (sem L.env Mf) (.func (.func 148) [] []) [.int .u8 v] H = some (.int .u8 (a26 v:Nat),H,[]):=
 a03 (by kernel_rfl) (by kernel_rfl) rfl rfl (d4f v hv) rfl
theorem e58:-BitVec.ofInt 64 0 = 0#64:=by decide
theorem e57:-BitVec.ofInt 64 1 = BitVec.allOnes 64:=by decide
theorem d9c (v:Nat) (hv:v < 256):sem L.env Mf 128 [.int .u8 v] [] = some (.agg (a2r v).enc,[]):=by
 have hc:=fun H=>c5i (d:=false) H v hv
 have h4:a26 v < 4:=by unfold a26;split<;>omega
 have hw:a2r v = match a26 v with
  | 0=>⟨0#64,BitVec.allOnes 64⟩
  | 1=>⟨BitVec.allOnes 64,0#64⟩
  | 2=>⟨0#64,0#64⟩
  | _=>⟨BitVec.allOnes 64,BitVec.allOnes 64⟩:=rfl
 rw [hw]
 generalize a26 v = c at hc h4
 have h:c = 0 ∨ c = 1 ∨ c = 2 ∨ c = 3:=by omega
 rcases h with rfl|rfl|rfl|rfl
 ·(refine sv Tryz.f128 ?_;simp only [Tryz.f128,gS])
  (repeat first|simp only [ww]|(apply xa;simp +decide only [go_sem,hc,e58,e57];rfl;kernel_rfl))
  (apply fqb;simp +decide only [go_sem]<;>rfl)
 ·(refine sv Tryz.f128 ?_;simp only [Tryz.f128,gS])
  (repeat first|simp only [ww]|(apply xa;simp +decide only [go_sem,hc,e58,e57];rfl;kernel_rfl))
  (apply fqb;simp +decide only [go_sem]<;>rfl)
 ·(refine sv Tryz.f128 ?_;simp only [Tryz.f128,gS])
  (repeat first|simp only [ww]|(apply xa;simp +decide only [go_sem,hc,e58,e57];rfl;kernel_rfl))
  (apply fqb;simp +decide only [go_sem]<;>rfl)
 ·(refine sv Tryz.f128 ?_;simp only [Tryz.f128,gS])
  (repeat first|simp only [ww]|(apply xa;simp +decide only [go_sem,hc,e58,e57];rfl;kernel_rfl))
  (apply fqb;simp +decide only [go_sem]<;>rfl)
theorem b3v {d:Bool} (H:a05) (v:Nat) (hv:v < 256):a0c L.env d (sem L.env Mf) (.func (.func 128) [] []) [.int .u8 v] H = some (.agg (a2r v).enc,H,[]):=
 a03 (by kernel_rfl) (by kernel_rfl) rfl rfl (d9c v hv) rfl
theorem a5k {d:Bool} (H:a05) (v:Nat) (hv:v < 256) {n:Int} (hn:n = v):a0c L.env d (sem L.env Mf) (.func (.func 128) [] []) [.int .u8 n] H = some (.agg (a2r v).enc,H,[]):=by
 subst hn;exact b3v H v hv
theorem d6c (l:List W) (hl:l.length < 1000000):sem L.env Mf 154 [.slice 0 0 l.length (some l.length)] [some (.row 2 (l.map W.enc))] = some (.agg (a69 d11 (a2r 1) l).enc,[some (.row 2 (l.map W.enc))]):=by
 have hc:=fun H=>a5k (d:=false) H 1 (by omega) (n:=1) rfl
 generalize a2r 1 = z at hc
 simp only [go_sem] at hc
 (refine sv Tryz.f154 ?_;simp only [Tryz.f154,gS])
 (repeat first|simp only [ww]|(apply xa;simp +decide only [go_sem,hc];rfl;kernel_rfl))
 refine a1e (σ:=Nat) kp154_0 (fun i=>[(2,.ptr 1 0 0),(3,.ptr 2 0 0),(7,.slice 0 0 l.length (some l.length)),(8,.int .i64 l.length),(9,.int .i64 i)])
  (fun i=>[some (.row 2 (l.map W.enc)),some (.row 2 [[u64 (BitVec.ofInt 64 0),u64 (BitVec.ofInt 64 0)]]),some (.row 2 [(a69 d11 z (l.take i)).enc])]) (fun i=>l.length - i) (fun i=>i ≤ l.length) 0 ?_ (Nat.zero_le _) ?_ ?_
 ·(simp +decide only [go_sem,a01,a00,List.take_zero]<;>rfl)
 ·intro i _
  (simp +decide only [go_sem,a01,a00]<;>rfl)
 ·intro i hi
  by_cases hlt:i < l.length
  ·obtain ⟨x,hx⟩:∃ x,l[i]? = some x:=⟨_,List.getElem?_eq_getElem hlt⟩
   have c1:(i:Int) < l.length:=by omega
   have hw:=wI1 (n:=i) (by omega)
   have hs:=b0u (f:=d11) (z:=z) hx
   (repeat first|simp only [ww]|(apply xa;simp +decide only [go_sem,c1,hlt,hx,hw];rfl;kernel_rfl))
   refine a1w (i + 1) ?_ (by omega) (by omega)
   rw [hs]
   (simp +decide only [go_sem,a01,a00,d11]<;>rfl)
  ·obtain rfl:i = l.length:=by omega
   have c1:¬ (l.length:Int) < l.length:=by omega
   rw [List.take_length]
   (repeat first|simp only [ww]|(apply xa;simp +decide only [go_sem,c1];rfl;kernel_rfl))
   (apply fqb;simp +decide only [go_sem]<;>rfl)
theorem e2v (l:List W) (hl:l.length < 1000000):sem L.env Mf 155 [.slice 0 0 l.length (some l.length)] [some (.row 2 (l.map W.enc))] = some (.agg (a69 wOr (a2r 0) l).enc,[some (.row 2 (l.map W.enc))]):=by
 have hc:=fun H=>a5k (d:=false) H 0 (by omega) (n:=0) rfl
 generalize a2r 0 = z at hc
 simp only [go_sem] at hc
 (refine sv Tryz.f155 ?_;simp only [Tryz.f155,gS])
 (repeat first|simp only [ww]|(apply xa;simp +decide only [go_sem,hc];rfl;kernel_rfl))
 refine a1e (σ:=Nat) kp155_0 (fun i=>[(2,.ptr 1 0 0),(3,.ptr 2 0 0),(7,.slice 0 0 l.length (some l.length)),(8,.int .i64 l.length),(9,.int .i64 i)])
  (fun i=>[some (.row 2 (l.map W.enc)),some (.row 2 [[u64 (BitVec.ofInt 64 0),u64 (BitVec.ofInt 64 0)]]),some (.row 2 [(a69 wOr z (l.take i)).enc])]) (fun i=>l.length - i) (fun i=>i ≤ l.length) 0 ?_ (Nat.zero_le _) ?_ ?_
 ·(simp +decide only [go_sem,a01,a00,List.take_zero]<;>rfl)
 ·intro i _
  (simp +decide only [go_sem,a01,a00]<;>rfl)
 ·intro i hi
  by_cases hlt:i < l.length
  ·obtain ⟨x,hx⟩:∃ x,l[i]? = some x:=⟨_,List.getElem?_eq_getElem hlt⟩
   have c1:(i:Int) < l.length:=by omega
   have hw:=wI1 (n:=i) (by omega)
   have hs:=b0u (f:=wOr) (z:=z) hx
   (repeat first|simp only [ww]|(apply xa;simp +decide only [go_sem,c1,hlt,hx,hw];rfl;kernel_rfl))
   refine a1w (i + 1) ?_ (by omega) (by omega)
   rw [hs]
   (simp +decide only [go_sem,a01,a00,wOr]<;>rfl)
  ·obtain rfl:i = l.length:=by omega
   have c1:¬ (l.length:Int) < l.length:=by omega
   rw [List.take_length]
   (repeat first|simp only [ww]|(apply xa;simp +decide only [go_sem,c1];rfl;kernel_rfl))
   (apply fqb;simp +decide only [go_sem]<;>rfl)
theorem d5b (l:List W) (hl:l.length < 1000000):sem L.env Mf 156 [.slice 0 0 l.length (some l.length)] [some (.row 2 (l.map W.enc))] = some (.agg (a69 d10 (a2r 0) l).enc,[some (.row 2 (l.map W.enc))]):=by
 have hc:=fun H=>a5k (d:=false) H 0 (by omega) (n:=0) rfl
 generalize a2r 0 = z at hc
 simp only [go_sem] at hc
 (refine sv Tryz.f156 ?_;simp only [Tryz.f156,gS])
 (repeat first|simp only [ww]|(apply xa;simp +decide only [go_sem,hc];rfl;kernel_rfl))
 refine a1e (σ:=Nat) kp156_0 (fun i=>[(2,.ptr 1 0 0),(3,.ptr 2 0 0),(7,.slice 0 0 l.length (some l.length)),(8,.int .i64 l.length),(9,.int .i64 i)])
  (fun i=>[some (.row 2 (l.map W.enc)),some (.row 2 [[u64 (BitVec.ofInt 64 0),u64 (BitVec.ofInt 64 0)]]),some (.row 2 [(a69 d10 z (l.take i)).enc])]) (fun i=>l.length - i) (fun i=>i ≤ l.length) 0 ?_ (Nat.zero_le _) ?_ ?_
 ·(simp +decide only [go_sem,a01,a00,List.take_zero]<;>rfl)
 ·intro i _
  (simp +decide only [go_sem,a01,a00]<;>rfl)
 ·intro i hi
  by_cases hlt:i < l.length
  ·obtain ⟨x,hx⟩:∃ x,l[i]? = some x:=⟨_,List.getElem?_eq_getElem hlt⟩
   have c1:(i:Int) < l.length:=by omega
   have hw:=wI1 (n:=i) (by omega)
   have hs:=b0u (f:=d10) (z:=z) hx
   (repeat first|simp only [ww]|(apply xa;simp +decide only [go_sem,c1,hlt,hx,hw];rfl;kernel_rfl))
   refine a1w (i + 1) ?_ (by omega) (by omega)
   rw [hs]
   (simp +decide only [go_sem,a01,a00,d10]<;>rfl)
  ·obtain rfl:i = l.length:=by omega
   have c1:¬ (l.length:Int) < l.length:=by omega
   rw [List.take_length]
   (repeat first|simp only [ww]|(apply xa;simp +decide only [go_sem,c1];rfl;kernel_rfl))
   (apply fqb;simp +decide only [go_sem]<;>rfl)
theorem b6m (a:W):sem L.env Mf 152 [.agg a.enc] [] = some (.agg (a50 a).enc,[]):=by
 (refine sv Tryz.f152 ?_;simp only [Tryz.f152,gS])
 (repeat first|simp only [ww]|(apply xa;simp +decide only [go_sem];rfl;kernel_rfl))
 (apply fqb;simp +decide only [go_sem,a50]<;>rfl)
theorem b8k {d:Bool} (H:a05) (a:W):a0c L.env d (sem L.env Mf) (.func (.func 152) [] []) [.agg a.enc] H = some (.agg (a50 a).enc,H,[]):=
 a03 (by kernel_rfl) (by kernel_rfl) rfl rfl (b6m a) rfl
theorem e32 (a:W):sem L.env Mf 153 [.agg a.enc] [] = some (.agg (d5c a).enc,[]):=by
 (refine sv Tryz.f153 ?_;simp only [Tryz.f153,gS])
 (repeat first|simp only [ww]|(apply xa;simp +decide only [go_sem];rfl;kernel_rfl))
 (apply fqb;simp +decide only [go_sem,d5c]<;>rfl)
theorem c2o {d:Bool} (H:a05) (a:W):a0c L.env d (sem L.env Mf) (.func (.func 153) [] []) [.agg a.enc] H = some (.agg (d5c a).enc,H,[]):=
 a03 (by kernel_rfl) (by kernel_rfl) rfl rfl (e32 a) rfl
theorem e36 (a b c:W):sem L.env Mf 157 [.agg a.enc,.agg b.enc,.agg c.enc] [] = some (.agg (e0s a b c).enc,[]):=by
 (refine sv Tryz.f157 ?_;simp only [Tryz.f157,gS])
 (repeat first|simp only [ww]|(apply xa;simp +decide only [go_sem];rfl;kernel_rfl))
 (apply fqb;simp +decide only [go_sem,e0s]<;>rfl)
theorem c2s {d:Bool} (H:a05) (a b c:W):a0c L.env d (sem L.env Mf) (.func (.func 157) [] []) [.agg a.enc,.agg b.enc,.agg c.enc] H = some (.agg (e0s a b c).enc,H,[]):=
 a03 (by kernel_rfl) (by kernel_rfl) rfl rfl (e36 a b c) rfl
theorem e27 (a b:W):sem L.env Mf 158 [.agg a.enc,.agg b.enc] [] = some (.agg (e0r a b).enc,[]):=by
 (refine sv Tryz.f158 ?_;simp only [Tryz.f158,gS])
 (repeat first|simp only [ww]|(apply xa;simp +decide only [go_sem];rfl;kernel_rfl))
 (apply fqb;simp +decide only [go_sem,e0r]<;>rfl)
theorem c27 {d:Bool} (H:a05) (a b:W):a0c L.env d (sem L.env Mf) (.func (.func 158) [] []) [.agg a.enc,.agg b.enc] H = some (.agg (e0r a b).enc,H,[]):=
 a03 (by kernel_rfl) (by kernel_rfl) rfl rfl (e27 a b) rfl
theorem d3u (k:Nat) (hk:k < 16):sem L.env Mf 110 [.int .u8 k] [] = some (.tuple [.int .i64 (a1m k:Nat),.int .i64 (a1n k:Nat)],[]):=by
 have w:=wI (n:=k) (by omega)
 have c:¬ (16:Int) ≤ k:=by omega
 have h:k = 0 ∨ k = 1 ∨ k = 2 ∨ k = 3 ∨ k = 4 ∨ k = 5 ∨ k = 6 ∨ k = 7 ∨ k = 8 ∨ k = 9 ∨ k = 10 ∨ k = 11 ∨ k = 12 ∨ k = 13 ∨ k = 14 ∨ k = 15:=by omega
 rcases h with rfl|rfl|rfl|rfl|rfl|rfl|rfl|rfl|rfl|rfl|rfl|rfl|rfl|rfl|rfl|rfl
 all_goals
  (refine sv Tryz.f110 ?_;simp only [Tryz.f110,gS])
  (repeat first|simp only [ww]|(apply xa;simp +decide only [go_sem,w,c];rfl;kernel_rfl))
  (apply fqb;simp +decide only [go_sem]<;>rfl)
theorem d9q (c:Rep) (l:List W) (hl:l.length < 1000000):sem L.env Mf 151 [sl c (l.map W.enc)] [] = some (.agg (c68 l).enc,[]):=by
 (refine sv Tryz.f151 ?_;simp only [Tryz.f151,gS])
 (repeat first|simp only [ww]|(apply xa;simp +decide only [go_sem];rfl;kernel_rfl))
 refine a1e (σ:=Nat) kp151_0 (fun i=>[(2,.ptr 0 0 0),(3,u64 (c5o (l.take i)).1),(4,u64 (c5o (l.take i)).2.1),(5,u64 (c5o (l.take i)).2.2),(8,sl c (l.map W.enc)),(9,.int .i64 l.length),(10,.int .i64 i)])
  (fun _=>[some (.row 2 [[u64 (BitVec.ofInt 64 0),u64 (BitVec.ofInt 64 0)]])]) (fun i=>l.length - i) (fun i=>i ≤ l.length) 0 ?_ (Nat.zero_le _) ?_ ?_
 ·(simp +decide only [go_sem,a01,a00,List.take_zero,c5o,List.foldl_nil]<;>rfl)
 ·intro i _
  (simp +decide only [go_sem,a01,a00]<;>rfl)
 ·intro i hi
  by_cases hlt:i < l.length
  ·obtain ⟨x,hx⟩:∃ x,l[i]? = some x:=⟨_,List.getElem?_eq_getElem hlt⟩
   have c1:(i:Int) < l.length:=by omega
   have hw:=wI1 (n:=i) (by omega)
   have hs:=b9x hx
   (repeat first|simp only [ww]|(apply xa;simp +decide only [go_sem,c1,hlt,hx,hw];rfl;kernel_rfl))
   refine a1w (i + 1) ?_ (by omega) (by omega)
   rw [hs]
   (simp +decide only [go_sem,a01,a00,d9r]<;>rfl)
  ·obtain rfl:i = l.length:=by omega
   have c1:¬ (l.length:Int) < l.length:=by omega
   rw [List.take_length]
   (repeat first|simp only [ww]|(apply xa;simp +decide only [go_sem,c1];rfl;kernel_rfl))
   (apply fqb;simp +decide only [go_sem,c68,e45]<;>rfl)
theorem d9p (l:List W) (hl:l.length < 1000000):sem L.env Mf 151 [.slice 0 0 l.length (some l.length)] [some (.row 2 (l.map W.enc))] = some (.agg (c68 l).enc,[some (.row 2 (l.map W.enc))]):=by
 (refine sv Tryz.f151 ?_;simp only [Tryz.f151,gS])
 (repeat first|simp only [ww]|(apply xa;simp +decide only [go_sem];rfl;kernel_rfl))
 refine a1e (σ:=Nat) kp151_0 (fun i=>[(2,.ptr 1 0 0),(3,u64 (c5o (l.take i)).1),(4,u64 (c5o (l.take i)).2.1),(5,u64 (c5o (l.take i)).2.2),(8,.slice 0 0 l.length (some l.length)),(9,.int .i64 l.length),(10,.int .i64 i)])
  (fun _=>[some (.row 2 (l.map W.enc)),some (.row 2 [[u64 (BitVec.ofInt 64 0),u64 (BitVec.ofInt 64 0)]])]) (fun i=>l.length - i) (fun i=>i ≤ l.length) 0 ?_ (Nat.zero_le _) ?_ ?_
 ·(simp +decide only [go_sem,a01,a00,List.take_zero,c5o,List.foldl_nil]<;>rfl)
 ·intro i _
  (simp +decide only [go_sem,a01,a00]<;>rfl)
 ·intro i hi
  by_cases hlt:i < l.length
  ·obtain ⟨x,hx⟩:∃ x,l[i]? = some x:=⟨_,List.getElem?_eq_getElem hlt⟩
   have c1:(i:Int) < l.length:=by omega
   have hw:=wI1 (n:=i) (by omega)
   have hs:=b9x hx
   (repeat first|simp only [ww]|(apply xa;simp +decide only [go_sem,c1,hlt,hx,hw];rfl;kernel_rfl))
   refine a1w (i + 1) ?_ (by omega) (by omega)
   rw [hs]
   (simp +decide only [go_sem,a01,a00,d9r]<;>rfl)
  ·obtain rfl:i = l.length:=by omega
   have c1:¬ (l.length:Int) < l.length:=by omega
   rw [List.take_length]
   (repeat first|simp only [ww]|(apply xa;simp +decide only [go_sem,c1];rfl;kernel_rfl))
   (apply fqb;simp +decide only [go_sem,c68,e45]<;>rfl)
set_option maxHeartbeats 200000000
open Go.Proofs Go.Ax Go.Pc
set_option maxRecDepth 100000
theorem a8x {d:Bool} (H:a05) (k:Nat) (hk:k < 16):a0c L.env d (sem L.env Mf) (.func (.func 110) [] []) [.int .u8 k] H = some (.tuple [.int .i64 (a1m k:Nat),.int .i64 (a1n k:Nat)],H,[]):=
 a03 (by kernel_rfl) (by kernel_rfl) rfl rfl (d3u k hk) rfl
theorem d4i {d:Bool} (H:a05) (c:Rep) (l:List W) (hl:l.length < 1000000):a0c L.env d (sem L.env Mf) (.func (.func 151) [] []) [sl c (l.map W.enc)] H = some (.agg (c68 l).enc,H,[]):=
 a03 (by kernel_rfl) (by kernel_rfl) rfl (by simp only [go_sem]) (d9q c l hl) rfl
theorem d98 (l:List W):FlatO (some (.row 2 (l.map W.enc))):=FlatO.row (d9a l)
theorem d0i (l:List W) (hl:l.length < 1000000) (X:Option AObj):a0c L.env false (sem L.env Mf) (.func (.func 154) [] []) [.slice 1 0 l.length (some l.length)] [X,some (.row 2 (l.map W.enc))] = some (.agg (a69 d11 (a2r 1) l).enc,[X,some (.row 2 (l.map W.enc))],[1]):=
 a3j [1] (by kernel_rfl) (by kernel_rfl) rfl (by simp +decide only [go_sem]) rfl rfl (by intro b hb;simp only [List.mem_singleton] at hb;subst hb;exact d98 l) (by simp +decide only [go_sem]) (by simp +decide only [go_sem]) (d6c l hl) rfl
theorem d2f (l:List W) (hl:l.length < 1000000) (X:Option AObj):a0c L.env false (sem L.env Mf) (.func (.func 155) [] []) [.slice 1 0 l.length (some l.length)] [X,some (.row 2 (l.map W.enc))] = some (.agg (a69 wOr (a2r 0) l).enc,[X,some (.row 2 (l.map W.enc))],[1]):=
 a3j [1] (by kernel_rfl) (by kernel_rfl) rfl (by simp +decide only [go_sem]) rfl rfl (by intro b hb;simp only [List.mem_singleton] at hb;subst hb;exact d98 l) (by simp +decide only [go_sem]) (by simp +decide only [go_sem]) (e2v l hl) rfl
theorem c65 (l:List W) (hl:l.length < 1000000) (X:Option AObj):a0c L.env false (sem L.env Mf) (.func (.func 156) [] []) [.slice 1 0 l.length (some l.length)] [X,some (.row 2 (l.map W.enc))] = some (.agg (a69 d10 (a2r 0) l).enc,[X,some (.row 2 (l.map W.enc))],[1]):=
 a3j [1] (by kernel_rfl) (by kernel_rfl) rfl (by simp +decide only [go_sem]) rfl rfl (by intro b hb;simp only [List.mem_singleton] at hb;subst hb;exact d98 l) (by simp +decide only [go_sem]) (by simp +decide only [go_sem]) (d5b l hl) rfl
theorem d0h (l:List W) (hl:l.length < 1000000) (X:Option AObj) (Y:Option AObj):a0c L.env false (sem L.env Mf) (.func (.func 154) [] []) [.slice 2 0 l.length (some l.length)] [X,Y,some (.row 2 (l.map W.enc))] = some (.agg (a69 d11 (a2r 1) l).enc,[X,Y,some (.row 2 (l.map W.enc))],[2]):=
 a3j [2] (by kernel_rfl) (by kernel_rfl) rfl (by simp +decide only [go_sem]) rfl rfl (by intro b hb;simp only [List.mem_singleton] at hb;subst hb;exact d98 l) (by simp +decide only [go_sem]) (by simp +decide only [go_sem]) (d6c l hl) rfl
theorem d2e (l:List W) (hl:l.length < 1000000) (X:Option AObj) (Y:Option AObj):a0c L.env false (sem L.env Mf) (.func (.func 155) [] []) [.slice 2 0 l.length (some l.length)] [X,Y,some (.row 2 (l.map W.enc))] = some (.agg (a69 wOr (a2r 0) l).enc,[X,Y,some (.row 2 (l.map W.enc))],[2]):=
 a3j [2] (by kernel_rfl) (by kernel_rfl) rfl (by simp +decide only [go_sem]) rfl rfl (by intro b hb;simp only [List.mem_singleton] at hb;subst hb;exact d98 l) (by simp +decide only [go_sem]) (by simp +decide only [go_sem]) (e2v l hl) rfl
theorem c64 (l:List W) (hl:l.length < 1000000) (X:Option AObj) (Y:Option AObj):a0c L.env false (sem L.env Mf) (.func (.func 156) [] []) [.slice 2 0 l.length (some l.length)] [X,Y,some (.row 2 (l.map W.enc))] = some (.agg (a69 d10 (a2r 0) l).enc,[X,Y,some (.row 2 (l.map W.enc))],[2]):=
 a3j [2] (by kernel_rfl) (by kernel_rfl) rfl (by simp +decide only [go_sem]) rfl rfl (by intro b hb;simp only [List.mem_singleton] at hb;subst hb;exact d98 l) (by simp +decide only [go_sem]) (by simp +decide only [go_sem]) (d5b l hl) rfl
theorem d07 (l:List W) (hl:l.length < 1000000) (X:Option AObj):a0c L.env false (sem L.env Mf) (.func (.func 151) [] []) [.slice 0 0 l.length (some l.length)] [some (.row 2 (l.map W.enc)),X] = some (.agg (c68 l).enc,[some (.row 2 (l.map W.enc)),X],[0]):=
 a3j [0] (by kernel_rfl) (by kernel_rfl) rfl (by simp +decide only [go_sem]) rfl rfl (by intro b hb;simp only [List.mem_singleton] at hb;subst hb;exact d98 l) (by simp +decide only [go_sem]) (by simp +decide only [go_sem]) (d9p l hl) rfl
theorem d3x (c:Rep) (k:Nat) (hk:k < 16) (l:List W) (hl:l.length < 1000):sem L.env Mf 126 [.int .u8 k,sl c (l.map W.enc)] [] = some (.agg (a41 k l).enc,[]):=by
 have hf:=fun H=>a8x (d:=false) H k hk
 have f0:=fun H=>a5k (d:=false) H 0 (by omega) (n:=0) rfl
 have f1:=fun H=>a5k (d:=false) H 1 (by omega) (n:=1) rfl
 have f2:=fun H=>a5k (d:=false) H 2 (by omega) (n:=2) rfl
 simp only [go_sem] at f0 f1 f2
 by_cases hlo:l.length < a1m k
 ·have c1:(l.length:Int) < a1m k:=by omega
  rw [show a41 k l = a2r 2 by simp [a41,hlo]]
  (refine sv Tryz.f126 ?_;simp only [Tryz.f126,gS])
  (repeat first|simp only [ww]|(apply xa;simp +decide only [go_sem,hf,c1,f2];rfl;kernel_rfl))
  (apply fqb;simp +decide only [go_sem]<;>rfl)
 have c1:¬ (l.length:Int) < a1m k:=by omega
 by_cases hhi:a1n k < l.length
 ·have c2:(a1n k:Int) < l.length:=by omega
  rw [show a41 k l = a2r 2 by simp [a41,hhi]]
  (refine sv Tryz.f126 ?_;simp only [Tryz.f126,gS])
  (repeat first|simp only [ww]|(apply xa;simp +decide only [go_sem,hf,c1,c2,f2];rfl;kernel_rfl))
  (apply fqb;simp +decide only [go_sem]<;>rfl)
 have c2:¬ (a1n k:Int) < l.length:=by omega
 have hb:¬ (l.length < a1m k ∨ a1n k < l.length):=by omega
 by_cases h13:k = 13
 ·subst h13
  rw [show a41 13 l = c68 l by simp [a41,hb]]
  have hbus:=fun H=>d4i (d:=false) H c l (by omega)
  simp only [go_sem] at hbus
  (refine sv Tryz.f126 ?_;simp only [Tryz.f126,gS])
  (repeat first|simp only [ww]|(apply xa;simp +decide only [go_sem,hf,c1,c2,hbus];rfl;kernel_rfl))
  (apply fqb;simp +decide only [go_sem]<;>rfl)
 have c13:¬ (k:Int) = 13:=by omega
 have hrm:l.length ≤ 1000000000:=by omega
 (refine sv Tryz.f126 ?_;simp only [Tryz.f126,gS])
 (repeat first|simp only [ww]|(apply xa;simp +decide only [go_sem,hf,c1,c2,c13,hrm];rfl;kernel_rfl))
 refine a1e (σ:=Nat) kp126_0 (fun i=>[(0,.int .u8 k),(4,.ptr 0 0 0),(7,.slice 1 0 l.length (some l.length)),(33,sl c (l.map W.enc)),(34,.int .i64 l.length),(35,.int .i64 i)])
  (fun i=>[some (.row 2 [[u64 (BitVec.ofInt 64 0),u64 (BitVec.ofInt 64 0)]]),some (.row 2 ((rdW l i).map W.enc))]) (fun i=>l.length - i) (fun i=>i ≤ l.length) 0 ?_ (Nat.zero_le _) ?_ ?_
 ·(simp +decide only [go_sem,a01,a00,c2i,zW]<;>rfl)
 ·intro i _
  (simp +decide only [go_sem,a01,a00]<;>rfl)
 ·intro i hi
  by_cases hlt:i < l.length
  ·obtain ⟨x,hx⟩:∃ x,l[i]? = some x:=⟨_,List.getElem?_eq_getElem hlt⟩
   have c1:(i:Int) < l.length:=by omega
   have hw:=wI1 (n:=i) (by omega)
   have hs:=c2j hx
   have hg:=c7h hlt
   have hrd:=fun H=>b8k (d:=false) H x
   simp only [go_sem] at hrd
   (repeat first|simp only [ww]|(apply xa;simp +decide only [go_sem,c1,hlt,hx,hw,hg,hrd,zW,hs];rfl;kernel_rfl))
   refine a1w (i + 1) ?_ (by omega) (by omega)
   (simp +decide only [go_sem,a01,a00]<;>rfl)
  have hie:i = l.length:=by omega
  subst hie
  have c3:¬ (l.length:Int) < l.length:=by omega
  rw [c7i]
  have hrl:(l.map a50).length = l.length:=List.length_map ..
  have hlen:(l.map a50).length < 1000000:=by omega
  have ha:=fun X=>d0i (l.map a50) hlen X
  have ho:=fun X=>d2f (l.map a50) hlen X
  have hx:=fun X=>c65 (l.map a50) hlen X
  have hnt:=fun H w=>c2o (d:=false) H w
  have hmx:=fun H a b c=>c2s (d:=true) H a b c
  have htr:=fun H a b=>c27 (d:=true) H a b
  rw [hrl] at ha ho hx
  have hwe:a41 k l = a1x k (l.map a50):=by unfold a41;rw [if_neg hb,if_neg h13]
  rw [hwe]
  generalize l.map a50 = r at hrl hlen ha ho hx
  simp only [go_sem] at ha ho hx hnt hmx htr
  have hget:∀ i,i < l.length → r[i]? = some (r.getD i zW):=fun i hi=>by rw [List.getD,List.getElem?_eq_getElem (by omega)];rfl
  have hkk:k = 0 ∨ k = 1 ∨ k = 2 ∨ k = 3 ∨ k = 4 ∨ k = 5 ∨ k = 6 ∨ k = 7 ∨ k = 8 ∨ k = 9 ∨ k = 10 ∨ k = 11 ∨ k = 12 ∨ k = 14 ∨ k = 15:=by omega
  rcases hkk with rfl|rfl|rfl|rfl|rfl|rfl|rfl|rfl|rfl|rfl|rfl|rfl|rfl|rfl|rfl
  ·have hlo':0 ≤ l.length:=Nat.le_of_not_lt hlo
   (repeat first|simp only [ww]|(apply xa;simp +decide only [go_sem,c3,f2];rfl;kernel_rfl))
   (apply fqb;simp +decide only [go_sem,a1x]<;>rfl)
  ·have hlo':0 ≤ l.length:=Nat.le_of_not_lt hlo
   (repeat first|simp only [ww]|(apply xa;simp +decide only [go_sem,c3,f0];rfl;kernel_rfl))
   (apply fqb;simp +decide only [go_sem,a1x]<;>rfl)
  ·have hlo':0 ≤ l.length:=Nat.le_of_not_lt hlo
   (repeat first|simp only [ww]|(apply xa;simp +decide only [go_sem,c3,f1];rfl;kernel_rfl))
   (apply fqb;simp +decide only [go_sem,a1x]<;>rfl)
  ·have hlo':1 ≤ l.length:=Nat.le_of_not_lt hlo
   have g0:=hget 0 (by omega)
   have p0:0 < l.length:=by omega
   (repeat first|simp only [ww]|(apply xa;simp +decide only [go_sem,c3,g0,p0];rfl;kernel_rfl))
   (apply fqb;simp +decide only [go_sem,a1x]<;>rfl)
  ·have hlo':1 ≤ l.length:=Nat.le_of_not_lt hlo
   have g0:=hget 0 (by omega)
   have p0:0 < l.length:=by omega
   (repeat first|simp only [ww]|(apply xa;simp +decide only [go_sem,c3,hnt,g0,p0];rfl;kernel_rfl))
   (apply fqb;simp +decide only [go_sem,a1x]<;>rfl)
  ·have hlo':2 ≤ l.length:=Nat.le_of_not_lt hlo
   (repeat first|simp only [ww]|(apply xa;simp +decide only [go_sem,c3,ha];rfl;kernel_rfl))
   (apply fqb;simp +decide only [go_sem,a1x]<;>rfl)
  ·have hlo':2 ≤ l.length:=Nat.le_of_not_lt hlo
   (repeat first|simp only [ww]|(apply xa;simp +decide only [go_sem,c3,ha,hnt];rfl;kernel_rfl))
   (apply fqb;simp +decide only [go_sem,a1x]<;>rfl)
  ·have hlo':2 ≤ l.length:=Nat.le_of_not_lt hlo
   (repeat first|simp only [ww]|(apply xa;simp +decide only [go_sem,c3,ho];rfl;kernel_rfl))
   (apply fqb;simp +decide only [go_sem,a1x]<;>rfl)
  ·have hlo':2 ≤ l.length:=Nat.le_of_not_lt hlo
   (repeat first|simp only [ww]|(apply xa;simp +decide only [go_sem,c3,ho,hnt];rfl;kernel_rfl))
   (apply fqb;simp +decide only [go_sem,a1x]<;>rfl)
  ·have hlo':2 ≤ l.length:=Nat.le_of_not_lt hlo
   (repeat first|simp only [ww]|(apply xa;simp +decide only [go_sem,c3,hx];rfl;kernel_rfl))
   (apply fqb;simp +decide only [go_sem,a1x]<;>rfl)
  ·have hlo':2 ≤ l.length:=Nat.le_of_not_lt hlo
   (repeat first|simp only [ww]|(apply xa;simp +decide only [go_sem,c3,hx,hnt];rfl;kernel_rfl))
   (apply fqb;simp +decide only [go_sem,a1x]<;>rfl)
  ·have hlo':3 ≤ l.length:=Nat.le_of_not_lt hlo
   have g0:=hget 0 (by omega)
   have p0:0 < l.length:=by omega
   have g1:=hget 1 (by omega)
   have p1:1 < l.length:=by omega
   have g2:=hget 2 (by omega)
   have p2:2 < l.length:=by omega
   (repeat first|simp only [ww]|(apply xa;simp +decide only [go_sem,c3,hmx,g0,p0,g1,p1,g2,p2];rfl;kernel_rfl))
   (apply fqb;simp +decide only [go_sem,a1x]<;>rfl)
  ·have hlo':2 ≤ l.length:=Nat.le_of_not_lt hlo
   have g0:=hget 0 (by omega)
   have p0:0 < l.length:=by omega
   have g1:=hget 1 (by omega)
   have p1:1 < l.length:=by omega
   (repeat first|simp only [ww]|(apply xa;simp +decide only [go_sem,c3,htr,g0,p0,g1,p1];rfl;kernel_rfl))
   (apply fqb;simp +decide only [go_sem,a1x]<;>rfl)
  ·have hlo':1 ≤ l.length:=Nat.le_of_not_lt hlo
   (repeat first|simp only [ww]|(apply xa;simp +decide only [go_sem,c3,f2];rfl;kernel_rfl))
   (apply fqb;simp +decide only [go_sem,a1x]<;>rfl)
  ·have hlo':0 ≤ l.length:=Nat.le_of_not_lt hlo
   (repeat first|simp only [ww]|(apply xa;simp +decide only [go_sem,c3,f2];rfl;kernel_rfl))
   (apply fqb;simp +decide only [go_sem,a1x]<;>rfl)
theorem d3w (k:Nat) (hk:k < 16) (l:List W) (hl:l.length < 1000):sem L.env Mf 126 [.int .u8 k,.slice 0 0 l.length (some l.length)] [some (.row 2 (l.map W.enc))] = some (.agg (a41 k l).enc,[some (.row 2 (l.map W.enc))]):=by
 have hf:=fun H=>a8x (d:=false) H k hk
 have f0:=fun H=>a5k (d:=false) H 0 (by omega) (n:=0) rfl
 have f1:=fun H=>a5k (d:=false) H 1 (by omega) (n:=1) rfl
 have f2:=fun H=>a5k (d:=false) H 2 (by omega) (n:=2) rfl
 simp only [go_sem] at f0 f1 f2
 by_cases hlo:l.length < a1m k
 ·have c1:(l.length:Int) < a1m k:=by omega
  rw [show a41 k l = a2r 2 by simp [a41,hlo]]
  (refine sv Tryz.f126 ?_;simp only [Tryz.f126,gS])
  (repeat first|simp only [ww]|(apply xa;simp +decide only [go_sem,hf,c1,f2];rfl;kernel_rfl))
  (apply fqb;simp +decide only [go_sem]<;>rfl)
 have c1:¬ (l.length:Int) < a1m k:=by omega
 by_cases hhi:a1n k < l.length
 ·have c2:(a1n k:Int) < l.length:=by omega
  rw [show a41 k l = a2r 2 by simp [a41,hhi]]
  (refine sv Tryz.f126 ?_;simp only [Tryz.f126,gS])
  (repeat first|simp only [ww]|(apply xa;simp +decide only [go_sem,hf,c1,c2,f2];rfl;kernel_rfl))
  (apply fqb;simp +decide only [go_sem]<;>rfl)
 have c2:¬ (a1n k:Int) < l.length:=by omega
 have hb:¬ (l.length < a1m k ∨ a1n k < l.length):=by omega
 by_cases h13:k = 13
 ·subst h13
  rw [show a41 13 l = c68 l by simp [a41,hb]]
  have hbus:=fun X=>d07 l (by omega) X
  simp only [go_sem] at hbus
  (refine sv Tryz.f126 ?_;simp only [Tryz.f126,gS])
  (repeat first|simp only [ww]|(apply xa;simp +decide only [go_sem,hf,c1,c2,hbus];rfl;kernel_rfl))
  (apply fqb;simp +decide only [go_sem]<;>rfl)
 have c13:¬ (k:Int) = 13:=by omega
 have hrm:l.length ≤ 1000000000:=by omega
 (refine sv Tryz.f126 ?_;simp only [Tryz.f126,gS])
 (repeat first|simp only [ww]|(apply xa;simp +decide only [go_sem,hf,c1,c2,c13,hrm];rfl;kernel_rfl))
 refine a1e (σ:=Nat) kp126_0 (fun i=>[(0,.int .u8 k),(4,.ptr 1 0 0),(7,.slice 2 0 l.length (some l.length)),(33,.slice 0 0 l.length (some l.length)),(34,.int .i64 l.length),(35,.int .i64 i)])
  (fun i=>[some (.row 2 (l.map W.enc)),some (.row 2 [[u64 (BitVec.ofInt 64 0),u64 (BitVec.ofInt 64 0)]]),some (.row 2 ((rdW l i).map W.enc))]) (fun i=>l.length - i) (fun i=>i ≤ l.length) 0 ?_ (Nat.zero_le _) ?_ ?_
 ·(simp +decide only [go_sem,a01,a00,c2i,zW]<;>rfl)
 ·intro i _
  (simp +decide only [go_sem,a01,a00]<;>rfl)
 ·intro i hi
  by_cases hlt:i < l.length
  ·obtain ⟨x,hx⟩:∃ x,l[i]? = some x:=⟨_,List.getElem?_eq_getElem hlt⟩
   have c1:(i:Int) < l.length:=by omega
   have hw:=wI1 (n:=i) (by omega)
   have hs:=c2j hx
   have hg:=c7h hlt
   have hrd:=fun H=>b8k (d:=false) H x
   simp only [go_sem] at hrd
   (repeat first|simp only [ww]|(apply xa;simp +decide only [go_sem,c1,hlt,hx,hw,hg,hrd,zW,hs];rfl;kernel_rfl))
   refine a1w (i + 1) ?_ (by omega) (by omega)
   (simp +decide only [go_sem,a01,a00]<;>rfl)
  have hie:i = l.length:=by omega
  subst hie
  have c3:¬ (l.length:Int) < l.length:=by omega
  rw [c7i]
  have hrl:(l.map a50).length = l.length:=List.length_map ..
  have hlen:(l.map a50).length < 1000000:=by omega
  have ha:=fun X Y=>d0h (l.map a50) hlen X Y
  have ho:=fun X Y=>d2e (l.map a50) hlen X Y
  have hx:=fun X Y=>c64 (l.map a50) hlen X Y
  have hnt:=fun H w=>c2o (d:=false) H w
  have hmx:=fun H a b c=>c2s (d:=true) H a b c
  have htr:=fun H a b=>c27 (d:=true) H a b
  rw [hrl] at ha ho hx
  have hwe:a41 k l = a1x k (l.map a50):=by unfold a41;rw [if_neg hb,if_neg h13]
  rw [hwe]
  generalize l.map a50 = r at hrl hlen ha ho hx
  simp only [go_sem] at ha ho hx hnt hmx htr
  have hget:∀ i,i < l.length → r[i]? = some (r.getD i zW):=fun i hi=>by rw [List.getD,List.getElem?_eq_getElem (by omega)];rfl
  have hkk:k = 0 ∨ k = 1 ∨ k = 2 ∨ k = 3 ∨ k = 4 ∨ k = 5 ∨ k = 6 ∨ k = 7 ∨ k = 8 ∨ k = 9 ∨ k = 10 ∨ k = 11 ∨ k = 12 ∨ k = 14 ∨ k = 15:=by omega
  rcases hkk with rfl|rfl|rfl|rfl|rfl|rfl|rfl|rfl|rfl|rfl|rfl|rfl|rfl|rfl|rfl
  ·have hlo':0 ≤ l.length:=Nat.le_of_not_lt hlo
   (repeat first|simp only [ww]|(apply xa;simp +decide only [go_sem,c3,f2];rfl;kernel_rfl))
   (apply fqb;simp +decide only [go_sem,a1x]<;>rfl)
  ·have hlo':0 ≤ l.length:=Nat.le_of_not_lt hlo
   (repeat first|simp only [ww]|(apply xa;simp +decide only [go_sem,c3,f0];rfl;kernel_rfl))
   (apply fqb;simp +decide only [go_sem,a1x]<;>rfl)
  ·have hlo':0 ≤ l.length:=Nat.le_of_not_lt hlo
   (repeat first|simp only [ww]|(apply xa;simp +decide only [go_sem,c3,f1];rfl;kernel_rfl))
   (apply fqb;simp +decide only [go_sem,a1x]<;>rfl)
  ·have hlo':1 ≤ l.length:=Nat.le_of_not_lt hlo
   have g0:=hget 0 (by omega)
   have p0:0 < l.length:=by omega
   (repeat first|simp only [ww]|(apply xa;simp +decide only [go_sem,c3,g0,p0];rfl;kernel_rfl))
   (apply fqb;simp +decide only [go_sem,a1x]<;>rfl)
  ·have hlo':1 ≤ l.length:=Nat.le_of_not_lt hlo
   have g0:=hget 0 (by omega)
   have p0:0 < l.length:=by omega
   (repeat first|simp only [ww]|(apply xa;simp +decide only [go_sem,c3,hnt,g0,p0];rfl;kernel_rfl))
   (apply fqb;simp +decide only [go_sem,a1x]<;>rfl)
  ·have hlo':2 ≤ l.length:=Nat.le_of_not_lt hlo
   (repeat first|simp only [ww]|(apply xa;simp +decide only [go_sem,c3,ha];rfl;kernel_rfl))
   (apply fqb;simp +decide only [go_sem,a1x]<;>rfl)
  ·have hlo':2 ≤ l.length:=Nat.le_of_not_lt hlo
   (repeat first|simp only [ww]|(apply xa;simp +decide only [go_sem,c3,ha,hnt];rfl;kernel_rfl))
   (apply fqb;simp +decide only [go_sem,a1x]<;>rfl)
  ·have hlo':2 ≤ l.length:=Nat.le_of_not_lt hlo
   (repeat first|simp only [ww]|(apply xa;simp +decide only [go_sem,c3,ho];rfl;kernel_rfl))
   (apply fqb;simp +decide only [go_sem,a1x]<;>rfl)
  ·have hlo':2 ≤ l.length:=Nat.le_of_not_lt hlo
   (repeat first|simp only [ww]|(apply xa;simp +decide only [go_sem,c3,ho,hnt];rfl;kernel_rfl))
   (apply fqb;simp +decide only [go_sem,a1x]<;>rfl)
  ·have hlo':2 ≤ l.length:=Nat.le_of_not_lt hlo
   (repeat first|simp only [ww]|(apply xa;simp +decide only [go_sem,c3,hx];rfl;kernel_rfl))
   (apply fqb;simp +decide only [go_sem,a1x]<;>rfl)
  ·have hlo':2 ≤ l.length:=Nat.le_of_not_lt hlo
   (repeat first|simp only [ww]|(apply xa;simp +decide only [go_sem,c3,hx,hnt];rfl;kernel_rfl))
   (apply fqb;simp +decide only [go_sem,a1x]<;>rfl)
  ·have hlo':3 ≤ l.length:=Nat.le_of_not_lt hlo
   have g0:=hget 0 (by omega)
   have p0:0 < l.length:=by omega
   have g1:=hget 1 (by omega)
   have p1:1 < l.length:=by omega
   have g2:=hget 2 (by omega)
   have p2:2 < l.length:=by omega
   (repeat first|simp only [ww]|(apply xa;simp +decide only [go_sem,c3,hmx,g0,p0,g1,p1,g2,p2];rfl;kernel_rfl))
   (apply fqb;simp +decide only [go_sem,a1x]<;>rfl)
  ·have hlo':2 ≤ l.length:=Nat.le_of_not_lt hlo
   have g0:=hget 0 (by omega)
   have p0:0 < l.length:=by omega
   have g1:=hget 1 (by omega)
   have p1:1 < l.length:=by omega
   (repeat first|simp only [ww]|(apply xa;simp +decide only [go_sem,c3,htr,g0,p0,g1,p1];rfl;kernel_rfl))
   (apply fqb;simp +decide only [go_sem,a1x]<;>rfl)
  ·have hlo':1 ≤ l.length:=Nat.le_of_not_lt hlo
   (repeat first|simp only [ww]|(apply xa;simp +decide only [go_sem,c3,f2];rfl;kernel_rfl))
   (apply fqb;simp +decide only [go_sem,a1x]<;>rfl)
  ·have hlo':0 ≤ l.length:=Nat.le_of_not_lt hlo
   (repeat first|simp only [ww]|(apply xa;simp +decide only [go_sem,c3,f2];rfl;kernel_rfl))
   (apply fqb;simp +decide only [go_sem,a1x]<;>rfl)
end Go.MInst
