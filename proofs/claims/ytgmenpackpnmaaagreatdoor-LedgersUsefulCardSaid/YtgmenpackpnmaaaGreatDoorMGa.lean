/- Part of a proof. No condition. -/
import Derived.Test.YtgmenpackpnmaaaGreatDoorMBase
import Derived.Test.YtgmenpackpnmaaaGreatDoorPcB
set_option linter.unusedSimpArgs false
set_option linter.unusedVariables false
namespace Go.MInst
open Go.Proofs Go.Ax Go.Pc
set_option maxRecDepth 100000
theorem d2p (v:Nat) (hv:v < 256):sem L.env Mf 148 [.int .u8 v] [] = some (.int .u8 (b1g v:Nat),[]):=by
 by_cases h:3 < v
 ·have c:(3:Int) < v:=by omega
  rw [show b1g v = 2 by simp [b1g,h]]
  (refine sv Tryz.f148 ?_;simp only [Tryz.f148,gS])
  (repeat first|simp only [ww]|(apply xa;simp +decide only [go_sem,c];rfl;kernel_rfl))
  (apply fqb;simp +decide only [go_sem]<;>rfl)
 ·have c:¬ (3:Int) < v:=by omega
  rw [show b1g v = v by simp [b1g,h]]
  (refine sv Tryz.f148 ?_;simp only [Tryz.f148,gS])
  (repeat first|simp only [ww]|(apply xa;simp +decide only [go_sem,c];rfl;kernel_rfl))
  (apply fqb;simp +decide only [go_sem]<;>rfl)
theorem c49 {d:Bool} (H:a06) (v:Nat) (hv:v < 256):a0e L.env d (sem L.env Mf) (.func (.func 148) [] []) [.int .u8 v] H = some (.int .u8 (b1g v:Nat),H,[]):=
 a05 (by kernel_rfl) (by kernel_rfl) rfl rfl (d2p v hv) rfl
theorem e41:-BitVec.ofInt 64 0 = 0#64:=by decide
theorem e40:-BitVec.ofInt 64 1 = BitVec.allOnes 64:=by decide
theorem d7h (v:Nat) (hv:v < 256):sem L.env Mf 128 [.int .u8 v] [] = some (.agg (a2l v).enc,[]):=by
 have hc:=fun H=>c49 (d:=false) H v hv
 have h4:b1g v < 4:=by unfold b1g;split<;>omega
 have hw:a2l v = match b1g v with
  | 0=>⟨0#64,BitVec.allOnes 64⟩
  | 1=>⟨BitVec.allOnes 64,0#64⟩
  | 2=>⟨0#64,0#64⟩
  | _=>⟨BitVec.allOnes 64,BitVec.allOnes 64⟩:=rfl
 rw [hw]
 generalize b1g v = c at hc h4
 have h:c = 0 ∨ c = 1 ∨ c = 2 ∨ c = 3:=by omega
 rcases h with rfl|rfl|rfl|rfl
 ·(refine sv Tryz.f128 ?_;simp only [Tryz.f128,gS])
  (repeat first|simp only [ww]|(apply xa;simp +decide only [go_sem,hc,e41,e40];rfl;kernel_rfl))
  (apply fqb;simp +decide only [go_sem]<;>rfl)
 ·(refine sv Tryz.f128 ?_;simp only [Tryz.f128,gS])
  (repeat first|simp only [ww]|(apply xa;simp +decide only [go_sem,hc,e41,e40];rfl;kernel_rfl))
  (apply fqb;simp +decide only [go_sem]<;>rfl)
 ·(refine sv Tryz.f128 ?_;simp only [Tryz.f128,gS])
  (repeat first|simp only [ww]|(apply xa;simp +decide only [go_sem,hc,e41,e40];rfl;kernel_rfl))
  (apply fqb;simp +decide only [go_sem]<;>rfl)
 ·(refine sv Tryz.f128 ?_;simp only [Tryz.f128,gS])
  (repeat first|simp only [ww]|(apply xa;simp +decide only [go_sem,hc,e41,e40];rfl;kernel_rfl))
  (apply fqb;simp +decide only [go_sem]<;>rfl)
theorem b3a {d:Bool} (H:a06) (v:Nat) (hv:v < 256):a0e L.env d (sem L.env Mf) (.func (.func 128) [] []) [.int .u8 v] H = some (.agg (a2l v).enc,H,[]):=
 a05 (by kernel_rfl) (by kernel_rfl) rfl rfl (d7h v hv) rfl
theorem a56 {d:Bool} (H:a06) (v:Nat) (hv:v < 256) {n:Int} (hn:n = v):a0e L.env d (sem L.env Mf) (.func (.func 128) [] []) [.int .u8 n] H = some (.agg (a2l v).enc,H,[]):=by
 subst hn;exact b3a H v hv
theorem d4m (l:List W) (hl:l.length < 1000000):sem L.env Mf 154 [.slice 0 0 l.length (some l.length)] [some (.row 2 (l.map W.enc))] = some (.agg (a5u c9g (a2l 1) l).enc,[some (.row 2 (l.map W.enc))]):=by
 have hc:=fun H=>a56 (d:=false) H 1 (by omega) (n:=1) rfl
 generalize a2l 1 = z at hc
 simp only [go_sem] at hc
 (refine sv Tryz.f154 ?_;simp only [Tryz.f154,gS])
 (repeat first|simp only [ww]|(apply xa;simp +decide only [go_sem,hc];rfl;kernel_rfl))
 refine a1c (σ:=Nat) kp154_0 (fun i=>[(2,.ptr 1 0 0),(3,.ptr 2 0 0),(7,.slice 0 0 l.length (some l.length)),(8,.int .i64 l.length),(9,.int .i64 i)])
  (fun i=>[some (.row 2 (l.map W.enc)),some (.row 2 [[u64 (BitVec.ofInt 64 0),u64 (BitVec.ofInt 64 0)]]),some (.row 2 [(a5u c9g z (l.take i)).enc])]) (fun i=>l.length - i) (fun i=>i ≤ l.length) 0 ?_ (Nat.zero_le _) ?_ ?_
 ·(simp +decide only [go_sem,a02,a00,List.take_zero]<;>rfl)
 ·intro i _
  (simp +decide only [go_sem,a02,a00]<;>rfl)
 ·intro i hi
  by_cases hlt:i < l.length
  ·obtain ⟨x,hx⟩:∃ x,l[i]? = some x:=⟨_,z9e hlt⟩
   have c1:(i:Int) < l.length:=by omega
   have hw:=wI1 (n:=i) (by omega)
   have hs:=b0c (f:=c9g) (z:=z) hx
   (repeat first|simp only [ww]|(apply xa;simp +decide only [go_sem,c1,hlt,hx,hw];rfl;kernel_rfl))
   refine a1m (i + 1) ?_ (by omega) (by omega)
   rw [hs]
   (simp +decide only [go_sem,a02,a00,c9g]<;>rfl)
  ·obtain rfl:i = l.length:=by omega
   have c1:¬ (l.length:Int) < l.length:=by omega
   rw [List.take_length]
   (repeat first|simp only [ww]|(apply xa;simp +decide only [go_sem,c1];rfl;kernel_rfl))
   (apply fqb;simp +decide only [go_sem]<;>rfl)
theorem e14 (l:List W) (hl:l.length < 1000000):sem L.env Mf 155 [.slice 0 0 l.length (some l.length)] [some (.row 2 (l.map W.enc))] = some (.agg (a5u wOr (a2l 0) l).enc,[some (.row 2 (l.map W.enc))]):=by
 have hc:=fun H=>a56 (d:=false) H 0 (by omega) (n:=0) rfl
 generalize a2l 0 = z at hc
 simp only [go_sem] at hc
 (refine sv Tryz.f155 ?_;simp only [Tryz.f155,gS])
 (repeat first|simp only [ww]|(apply xa;simp +decide only [go_sem,hc];rfl;kernel_rfl))
 refine a1c (σ:=Nat) kp155_0 (fun i=>[(2,.ptr 1 0 0),(3,.ptr 2 0 0),(7,.slice 0 0 l.length (some l.length)),(8,.int .i64 l.length),(9,.int .i64 i)])
  (fun i=>[some (.row 2 (l.map W.enc)),some (.row 2 [[u64 (BitVec.ofInt 64 0),u64 (BitVec.ofInt 64 0)]]),some (.row 2 [(a5u wOr z (l.take i)).enc])]) (fun i=>l.length - i) (fun i=>i ≤ l.length) 0 ?_ (Nat.zero_le _) ?_ ?_
 ·(simp +decide only [go_sem,a02,a00,List.take_zero]<;>rfl)
 ·intro i _
  (simp +decide only [go_sem,a02,a00]<;>rfl)
 ·intro i hi
  by_cases hlt:i < l.length
  ·obtain ⟨x,hx⟩:∃ x,l[i]? = some x:=⟨_,z9e hlt⟩
   have c1:(i:Int) < l.length:=by omega
   have hw:=wI1 (n:=i) (by omega)
   have hs:=b0c (f:=wOr) (z:=z) hx
   (repeat first|simp only [ww]|(apply xa;simp +decide only [go_sem,c1,hlt,hx,hw];rfl;kernel_rfl))
   refine a1m (i + 1) ?_ (by omega) (by omega)
   rw [hs]
   (simp +decide only [go_sem,a02,a00,wOr]<;>rfl)
  ·obtain rfl:i = l.length:=by omega
   have c1:¬ (l.length:Int) < l.length:=by omega
   rw [List.take_length]
   (repeat first|simp only [ww]|(apply xa;simp +decide only [go_sem,c1];rfl;kernel_rfl))
   (apply fqb;simp +decide only [go_sem]<;>rfl)
theorem d3m (l:List W) (hl:l.length < 1000000):sem L.env Mf 156 [.slice 0 0 l.length (some l.length)] [some (.row 2 (l.map W.enc))] = some (.agg (a5u c9f (a2l 0) l).enc,[some (.row 2 (l.map W.enc))]):=by
 have hc:=fun H=>a56 (d:=false) H 0 (by omega) (n:=0) rfl
 generalize a2l 0 = z at hc
 simp only [go_sem] at hc
 (refine sv Tryz.f156 ?_;simp only [Tryz.f156,gS])
 (repeat first|simp only [ww]|(apply xa;simp +decide only [go_sem,hc];rfl;kernel_rfl))
 refine a1c (σ:=Nat) kp156_0 (fun i=>[(2,.ptr 1 0 0),(3,.ptr 2 0 0),(7,.slice 0 0 l.length (some l.length)),(8,.int .i64 l.length),(9,.int .i64 i)])
  (fun i=>[some (.row 2 (l.map W.enc)),some (.row 2 [[u64 (BitVec.ofInt 64 0),u64 (BitVec.ofInt 64 0)]]),some (.row 2 [(a5u c9f z (l.take i)).enc])]) (fun i=>l.length - i) (fun i=>i ≤ l.length) 0 ?_ (Nat.zero_le _) ?_ ?_
 ·(simp +decide only [go_sem,a02,a00,List.take_zero]<;>rfl)
 ·intro i _
  (simp +decide only [go_sem,a02,a00]<;>rfl)
 ·intro i hi
  by_cases hlt:i < l.length
  ·obtain ⟨x,hx⟩:∃ x,l[i]? = some x:=⟨_,z9e hlt⟩
   have c1:(i:Int) < l.length:=by omega
   have hw:=wI1 (n:=i) (by omega)
   have hs:=b0c (f:=c9f) (z:=z) hx
   (repeat first|simp only [ww]|(apply xa;simp +decide only [go_sem,c1,hlt,hx,hw];rfl;kernel_rfl))
   refine a1m (i + 1) ?_ (by omega) (by omega)
   rw [hs]
   (simp +decide only [go_sem,a02,a00,c9f]<;>rfl)
  ·obtain rfl:i = l.length:=by omega
   have c1:¬ (l.length:Int) < l.length:=by omega
   rw [List.take_length]
   (repeat first|simp only [ww]|(apply xa;simp +decide only [go_sem,c1];rfl;kernel_rfl))
   (apply fqb;simp +decide only [go_sem]<;>rfl)
theorem b5x (a:W):sem L.env Mf 152 [.agg a.enc] [] = some (.agg (a4n a).enc,[]):=by
 (refine sv Tryz.f152 ?_;simp only [Tryz.f152,gS])
 (repeat first|simp only [ww]|(apply xa;simp +decide only [go_sem];rfl;kernel_rfl))
 (apply fqb;simp +decide only [go_sem,a4n]<;>rfl)
theorem b7s {d:Bool} (H:a06) (a:W):a0e L.env d (sem L.env Mf) (.func (.func 152) [] []) [.agg a.enc] H = some (.agg (a4n a).enc,H,[]):=
 a05 (by kernel_rfl) (by kernel_rfl) rfl rfl (b5x a) rfl
theorem e1c (a:W):sem L.env Mf 153 [.agg a.enc] [] = some (.agg (d3n a).enc,[]):=by
 (refine sv Tryz.f153 ?_;simp only [Tryz.f153,gS])
 (repeat first|simp only [ww]|(apply xa;simp +decide only [go_sem];rfl;kernel_rfl))
 (apply fqb;simp +decide only [go_sem,d3n]<;>rfl)
theorem c1l {d:Bool} (H:a06) (a:W):a0e L.env d (sem L.env Mf) (.func (.func 153) [] []) [.agg a.enc] H = some (.agg (d3n a).enc,H,[]):=
 a05 (by kernel_rfl) (by kernel_rfl) rfl rfl (e1c a) rfl
theorem e1f (a b c:W):sem L.env Mf 157 [.agg a.enc,.agg b.enc,.agg c.enc] [] = some (.agg (d90 a b c).enc,[]):=by
 (refine sv Tryz.f157 ?_;simp only [Tryz.f157,gS])
 (repeat first|simp only [ww]|(apply xa;simp +decide only [go_sem];rfl;kernel_rfl))
 (apply fqb;simp +decide only [go_sem,d90]<;>rfl)
theorem c1o {d:Bool} (H:a06) (a b c:W):a0e L.env d (sem L.env Mf) (.func (.func 157) [] []) [.agg a.enc,.agg b.enc,.agg c.enc] H = some (.agg (d90 a b c).enc,H,[]):=
 a05 (by kernel_rfl) (by kernel_rfl) rfl rfl (e1f a b c) rfl
theorem e0c (a b:W):sem L.env Mf 158 [.agg a.enc,.agg b.enc] [] = some (.agg (d8z a b).enc,[]):=by
 (refine sv Tryz.f158 ?_;simp only [Tryz.f158,gS])
 (repeat first|simp only [ww]|(apply xa;simp +decide only [go_sem];rfl;kernel_rfl))
 (apply fqb;simp +decide only [go_sem,d8z]<;>rfl)
theorem c0y {d:Bool} (H:a06) (a b:W):a0e L.env d (sem L.env Mf) (.func (.func 158) [] []) [.agg a.enc,.agg b.enc] H = some (.agg (d8z a b).enc,H,[]):=
 a05 (by kernel_rfl) (by kernel_rfl) rfl rfl (e0c a b) rfl
theorem d24 (k:Nat) (hk:k < 16):sem L.env Mf 110 [.int .u8 k] [] = some (.tuple [.int .i64 (a21 k:Nat),.int .i64 (a1p k:Nat)],[]):=by
 have w:=wI (n:=k) (by omega)
 have c:¬ (16:Int) ≤ k:=by omega
 have h:k = 0 ∨ k = 1 ∨ k = 2 ∨ k = 3 ∨ k = 4 ∨ k = 5 ∨ k = 6 ∨ k = 7 ∨ k = 8 ∨ k = 9 ∨ k = 10 ∨ k = 11 ∨ k = 12 ∨ k = 13 ∨ k = 14 ∨ k = 15:=by omega
 rcases h with rfl|rfl|rfl|rfl|rfl|rfl|rfl|rfl|rfl|rfl|rfl|rfl|rfl|rfl|rfl|rfl
 all_goals
  (refine sv Tryz.f110 ?_;simp only [Tryz.f110,gS])
  (repeat first|simp only [ww]|(apply xa;simp +decide only [go_sem,w,c];rfl;kernel_rfl))
  (apply fqb;simp +decide only [go_sem]<;>rfl)
theorem d84 (c:Rep) (l:List W) (hl:l.length < 1000000):sem L.env Mf 151 [sl c (l.map W.enc)] [] = some (.agg (c4y l).enc,[]):=by
 (refine sv Tryz.f151 ?_;simp only [Tryz.f151,gS])
 (repeat first|simp only [ww]|(apply xa;simp +decide only [go_sem];rfl;kernel_rfl))
 refine a1c (σ:=Nat) kp151_0 (fun i=>[(2,.ptr 0 0 0),(3,u64 (c4e (l.take i)).1),(4,u64 (c4e (l.take i)).2.1),(5,u64 (c4e (l.take i)).2.2),(8,sl c (l.map W.enc)),(9,.int .i64 l.length),(10,.int .i64 i)])
  (fun _=>[some (.row 2 [[u64 (BitVec.ofInt 64 0),u64 (BitVec.ofInt 64 0)]])]) (fun i=>l.length - i) (fun i=>i ≤ l.length) 0 ?_ (Nat.zero_le _) ?_ ?_
 ·(simp +decide only [go_sem,a02,a00,List.take_zero,c4e,List.foldl_nil]<;>rfl)
 ·intro i _
  (simp +decide only [go_sem,a02,a00]<;>rfl)
 ·intro i hi
  by_cases hlt:i < l.length
  ·obtain ⟨x,hx⟩:∃ x,l[i]? = some x:=⟨_,z9e hlt⟩
   have c1:(i:Int) < l.length:=by omega
   have hw:=wI1 (n:=i) (by omega)
   have hs:=b8y hx
   (repeat first|simp only [ww]|(apply xa;simp +decide only [go_sem,c1,hlt,hx,hw];rfl;kernel_rfl))
   refine a1m (i + 1) ?_ (by omega) (by omega)
   rw [hs]
   (simp +decide only [go_sem,a02,a00,d85]<;>rfl)
  ·obtain rfl:i = l.length:=by omega
   have c1:¬ (l.length:Int) < l.length:=by omega
   rw [List.take_length]
   (repeat first|simp only [ww]|(apply xa;simp +decide only [go_sem,c1];rfl;kernel_rfl))
   (apply fqb;simp +decide only [go_sem,c4y,e2r]<;>rfl)
theorem d83 (l:List W) (hl:l.length < 1000000):sem L.env Mf 151 [.slice 0 0 l.length (some l.length)] [some (.row 2 (l.map W.enc))] = some (.agg (c4y l).enc,[some (.row 2 (l.map W.enc))]):=by
 (refine sv Tryz.f151 ?_;simp only [Tryz.f151,gS])
 (repeat first|simp only [ww]|(apply xa;simp +decide only [go_sem];rfl;kernel_rfl))
 refine a1c (σ:=Nat) kp151_0 (fun i=>[(2,.ptr 1 0 0),(3,u64 (c4e (l.take i)).1),(4,u64 (c4e (l.take i)).2.1),(5,u64 (c4e (l.take i)).2.2),(8,.slice 0 0 l.length (some l.length)),(9,.int .i64 l.length),(10,.int .i64 i)])
  (fun _=>[some (.row 2 (l.map W.enc)),some (.row 2 [[u64 (BitVec.ofInt 64 0),u64 (BitVec.ofInt 64 0)]])]) (fun i=>l.length - i) (fun i=>i ≤ l.length) 0 ?_ (Nat.zero_le _) ?_ ?_
 ·(simp +decide only [go_sem,a02,a00,List.take_zero,c4e,List.foldl_nil]<;>rfl)
 ·intro i _
  (simp +decide only [go_sem,a02,a00]<;>rfl)
 ·intro i hi
  by_cases hlt:i < l.length
  ·obtain ⟨x,hx⟩:∃ x,l[i]? = some x:=⟨_,z9e hlt⟩
   have c1:(i:Int) < l.length:=by omega
   have hw:=wI1 (n:=i) (by omega)
   have hs:=b8y hx
   (repeat first|simp only [ww]|(apply xa;simp +decide only [go_sem,c1,hlt,hx,hw];rfl;kernel_rfl))
   refine a1m (i + 1) ?_ (by omega) (by omega)
   rw [hs]
   (simp +decide only [go_sem,a02,a00,d85]<;>rfl)
  ·obtain rfl:i = l.length:=by omega
   have c1:¬ (l.length:Int) < l.length:=by omega
   rw [List.take_length]
   (repeat first|simp only [ww]|(apply xa;simp +decide only [go_sem,c1];rfl;kernel_rfl))
   (apply fqb;simp +decide only [go_sem,c4y,e2r]<;>rfl)
set_option maxHeartbeats 200000000
theorem b0w {d:Bool} (H:a06) (k:Nat) (hk:k < 16):a0e L.env d (sem L.env Mf) (.func (.func 110) [] []) [.int .u8 k] H = some (.tuple [.int .i64 (a21 k:Nat),.int .i64 (a1p k:Nat)],H,[]):=
 a05 (by kernel_rfl) (by kernel_rfl) rfl rfl (d24 k hk) rfl
theorem d2r {d:Bool} (H:a06) (c:Rep) (l:List W) (hl:l.length < 1000000):a0e L.env d (sem L.env Mf) (.func (.func 151) [] []) [sl c (l.map W.enc)] H = some (.agg (c4y l).enc,H,[]):=
 a05 (by kernel_rfl) (by kernel_rfl) rfl (by simp only [go_sem]) (d84 c l hl) rfl
theorem d7b (l:List W):FlatO (some (.row 2 (l.map W.enc))):=FlatO.row (d7e l)
theorem c8x (l:List W) (hl:l.length < 1000000) (X:Option AObj):a0e L.env false (sem L.env Mf) (.func (.func 154) [] []) [.slice 1 0 l.length (some l.length)] [X,some (.row 2 (l.map W.enc))] = some (.agg (a5u c9g (a2l 1) l).enc,[X,some (.row 2 (l.map W.enc))],[1]):=
 a38 [1] (by kernel_rfl) (by kernel_rfl) rfl (by simp +decide only [go_sem]) rfl rfl (by intro b hb;simp only [List.mem_singleton] at hb;subst hb;exact d7b l) (by simp +decide only [go_sem]) (by simp +decide only [go_sem]) (d4m l hl) rfl
theorem d0z (l:List W) (hl:l.length < 1000000) (X:Option AObj):a0e L.env false (sem L.env Mf) (.func (.func 155) [] []) [.slice 1 0 l.length (some l.length)] [X,some (.row 2 (l.map W.enc))] = some (.agg (a5u wOr (a2l 0) l).enc,[X,some (.row 2 (l.map W.enc))],[1]):=
 a38 [1] (by kernel_rfl) (by kernel_rfl) rfl (by simp +decide only [go_sem]) rfl rfl (by intro b hb;simp only [List.mem_singleton] at hb;subst hb;exact d7b l) (by simp +decide only [go_sem]) (by simp +decide only [go_sem]) (e14 l hl) rfl
theorem c4v (l:List W) (hl:l.length < 1000000) (X:Option AObj):a0e L.env false (sem L.env Mf) (.func (.func 156) [] []) [.slice 1 0 l.length (some l.length)] [X,some (.row 2 (l.map W.enc))] = some (.agg (a5u c9f (a2l 0) l).enc,[X,some (.row 2 (l.map W.enc))],[1]):=
 a38 [1] (by kernel_rfl) (by kernel_rfl) rfl (by simp +decide only [go_sem]) rfl rfl (by intro b hb;simp only [List.mem_singleton] at hb;subst hb;exact d7b l) (by simp +decide only [go_sem]) (by simp +decide only [go_sem]) (d3m l hl) rfl
theorem c8w (l:List W) (hl:l.length < 1000000) (X:Option AObj) (Y:Option AObj):a0e L.env false (sem L.env Mf) (.func (.func 154) [] []) [.slice 2 0 l.length (some l.length)] [X,Y,some (.row 2 (l.map W.enc))] = some (.agg (a5u c9g (a2l 1) l).enc,[X,Y,some (.row 2 (l.map W.enc))],[2]):=
 a38 [2] (by kernel_rfl) (by kernel_rfl) rfl (by simp +decide only [go_sem]) rfl rfl (by intro b hb;simp only [List.mem_singleton] at hb;subst hb;exact d7b l) (by simp +decide only [go_sem]) (by simp +decide only [go_sem]) (d4m l hl) rfl
theorem d0y (l:List W) (hl:l.length < 1000000) (X:Option AObj) (Y:Option AObj):a0e L.env false (sem L.env Mf) (.func (.func 155) [] []) [.slice 2 0 l.length (some l.length)] [X,Y,some (.row 2 (l.map W.enc))] = some (.agg (a5u wOr (a2l 0) l).enc,[X,Y,some (.row 2 (l.map W.enc))],[2]):=
 a38 [2] (by kernel_rfl) (by kernel_rfl) rfl (by simp +decide only [go_sem]) rfl rfl (by intro b hb;simp only [List.mem_singleton] at hb;subst hb;exact d7b l) (by simp +decide only [go_sem]) (by simp +decide only [go_sem]) (e14 l hl) rfl
theorem c4u (l:List W) (hl:l.length < 1000000) (X:Option AObj) (Y:Option AObj):a0e L.env false (sem L.env Mf) (.func (.func 156) [] []) [.slice 2 0 l.length (some l.length)] [X,Y,some (.row 2 (l.map W.enc))] = some (.agg (a5u c9f (a2l 0) l).enc,[X,Y,some (.row 2 (l.map W.enc))],[2]):=
 a38 [2] (by kernel_rfl) (by kernel_rfl) rfl (by simp +decide only [go_sem]) rfl rfl (by intro b hb;simp only [List.mem_singleton] at hb;subst hb;exact d7b l) (by simp +decide only [go_sem]) (by simp +decide only [go_sem]) (d3m l hl) rfl
theorem c8n (l:List W) (hl:l.length < 1000000) (X:Option AObj):a0e L.env false (sem L.env Mf) (.func (.func 151) [] []) [.slice 0 0 l.length (some l.length)] [some (.row 2 (l.map W.enc)),X] = some (.agg (c4y l).enc,[some (.row 2 (l.map W.enc)),X],[0]):=
 a38 [0] (by kernel_rfl) (by kernel_rfl) rfl (by simp +decide only [go_sem]) rfl rfl (by intro b hb;simp only [List.mem_singleton] at hb;subst hb;exact d7b l) (by simp +decide only [go_sem]) (by simp +decide only [go_sem]) (d83 l hl) rfl
theorem d27 (c:Rep) (k:Nat) (hk:k < 16) (l:List W) (hl:l.length < 1000):sem L.env Mf 126 [.int .u8 k,sl c (l.map W.enc)] [] = some (.agg (a3t k l).enc,[]):=by
 have hf:=fun H=>b0w (d:=false) H k hk
 have f0:=fun H=>a56 (d:=false) H 0 (by omega) (n:=0) rfl
 have f1:=fun H=>a56 (d:=false) H 1 (by omega) (n:=1) rfl
 have f2:=fun H=>a56 (d:=false) H 2 (by omega) (n:=2) rfl
 simp only [go_sem] at f0 f1 f2
 by_cases hlo:l.length < a21 k
 ·have c1:(l.length:Int) < a21 k:=by omega
  rw [show a3t k l = a2l 2 by simp [a3t,hlo]]
  (refine sv Tryz.f126 ?_;simp only [Tryz.f126,gS])
  (repeat first|simp only [ww]|(apply xa;simp +decide only [go_sem,hf,c1,f2];rfl;kernel_rfl))
  (apply fqb;simp +decide only [go_sem]<;>rfl)
 have c1:¬ (l.length:Int) < a21 k:=by omega
 by_cases hhi:a1p k < l.length
 ·have c2:(a1p k:Int) < l.length:=by omega
  rw [show a3t k l = a2l 2 by simp [a3t,hhi]]
  (refine sv Tryz.f126 ?_;simp only [Tryz.f126,gS])
  (repeat first|simp only [ww]|(apply xa;simp +decide only [go_sem,hf,c1,c2,f2];rfl;kernel_rfl))
  (apply fqb;simp +decide only [go_sem]<;>rfl)
 have c2:¬ (a1p k:Int) < l.length:=by omega
 have hb:¬ (l.length < a21 k ∨ a1p k < l.length):=by omega
 by_cases h13:k = 13
 ·subst h13
  rw [show a3t 13 l = c4y l by simp [a3t,hb]]
  have hbus:=fun H=>d2r (d:=false) H c l (by omega)
  simp only [go_sem] at hbus
  (refine sv Tryz.f126 ?_;simp only [Tryz.f126,gS])
  (repeat first|simp only [ww]|(apply xa;simp +decide only [go_sem,hf,c1,c2,hbus];rfl;kernel_rfl))
  (apply fqb;simp +decide only [go_sem]<;>rfl)
 have c13:¬ (k:Int) = 13:=by omega
 have hrm:l.length ≤ 1000000000:=by omega
 (refine sv Tryz.f126 ?_;simp only [Tryz.f126,gS])
 (repeat first|simp only [ww]|(apply xa;simp +decide only [go_sem,hf,c1,c2,c13,hrm];rfl;kernel_rfl))
 refine a1c (σ:=Nat) kp126_0 (fun i=>[(0,.int .u8 k),(4,.ptr 0 0 0),(7,.slice 1 0 l.length (some l.length)),(33,sl c (l.map W.enc)),(34,.int .i64 l.length),(35,.int .i64 i)])
  (fun i=>[some (.row 2 [[u64 (BitVec.ofInt 64 0),u64 (BitVec.ofInt 64 0)]]),some (.row 2 ((rdW l i).map W.enc))]) (fun i=>l.length - i) (fun i=>i ≤ l.length) 0 ?_ (Nat.zero_le _) ?_ ?_
 ·(simp +decide only [go_sem,a02,a00,c1g,zW]<;>rfl)
 ·intro i _
  (simp +decide only [go_sem,a02,a00]<;>rfl)
 ·intro i hi
  by_cases hlt:i < l.length
  ·obtain ⟨x,hx⟩:∃ x,l[i]? = some x:=⟨_,z9e hlt⟩
   have c1:(i:Int) < l.length:=by omega
   have hw:=wI1 (n:=i) (by omega)
   have hs:=c1h hx
   have hg:=c65 hlt
   have hrd:=fun H=>b7s (d:=false) H x
   simp only [go_sem] at hrd
   (repeat first|simp only [ww]|(apply xa;simp +decide only [go_sem,c1,hlt,hx,hw,hg,hrd,zW,hs];rfl;kernel_rfl))
   refine a1m (i + 1) ?_ (by omega) (by omega)
   (simp +decide only [go_sem,a02,a00]<;>rfl)
  have hie:i = l.length:=by omega
  subst hie
  have c3:¬ (l.length:Int) < l.length:=by omega
  rw [c66]
  have hrl:(l.map a4n).length = l.length:=List.length_map ..
  have hlen:(l.map a4n).length < 1000000:=by omega
  have ha:=fun X=>c8x (l.map a4n) hlen X
  have ho:=fun X=>d0z (l.map a4n) hlen X
  have hx:=fun X=>c4v (l.map a4n) hlen X
  have hnt:=fun H w=>c1l (d:=false) H w
  have hmx:=fun H a b c=>c1o (d:=true) H a b c
  have htr:=fun H a b=>c0y (d:=true) H a b
  rw [hrl] at ha ho hx
  have hwe:a3t k l = a1o k (l.map a4n):=by unfold a3t;rw [if_neg hb,if_neg h13]
  rw [hwe]
  generalize l.map a4n = r at hrl hlen ha ho hx
  simp only [go_sem] at ha ho hx hnt hmx htr
  have hget:∀ i,i < l.length → r[i]? = some (r.getD i zW):=fun i hi=>by rw [List.getD,z9e (by omega)];rfl
  have hkk:k = 0 ∨ k = 1 ∨ k = 2 ∨ k = 3 ∨ k = 4 ∨ k = 5 ∨ k = 6 ∨ k = 7 ∨ k = 8 ∨ k = 9 ∨ k = 10 ∨ k = 11 ∨ k = 12 ∨ k = 14 ∨ k = 15:=by omega
  rcases hkk with rfl|rfl|rfl|rfl|rfl|rfl|rfl|rfl|rfl|rfl|rfl|rfl|rfl|rfl|rfl
  ·have hlo':0 ≤ l.length:=Nat.le_of_not_lt hlo
   (repeat first|simp only [ww]|(apply xa;simp +decide only [go_sem,c3,f2];rfl;kernel_rfl))
   (apply fqb;simp +decide only [go_sem,a1o]<;>rfl)
  ·have hlo':0 ≤ l.length:=Nat.le_of_not_lt hlo
   (repeat first|simp only [ww]|(apply xa;simp +decide only [go_sem,c3,f0];rfl;kernel_rfl))
   (apply fqb;simp +decide only [go_sem,a1o]<;>rfl)
  ·have hlo':0 ≤ l.length:=Nat.le_of_not_lt hlo
   (repeat first|simp only [ww]|(apply xa;simp +decide only [go_sem,c3,f1];rfl;kernel_rfl))
   (apply fqb;simp +decide only [go_sem,a1o]<;>rfl)
  ·have hlo':1 ≤ l.length:=Nat.le_of_not_lt hlo
   have g0:=hget 0 (by omega)
   have p0:0 < l.length:=by omega
   (repeat first|simp only [ww]|(apply xa;simp +decide only [go_sem,c3,g0,p0];rfl;kernel_rfl))
   (apply fqb;simp +decide only [go_sem,a1o]<;>rfl)
  ·have hlo':1 ≤ l.length:=Nat.le_of_not_lt hlo
   have g0:=hget 0 (by omega)
   have p0:0 < l.length:=by omega
   (repeat first|simp only [ww]|(apply xa;simp +decide only [go_sem,c3,hnt,g0,p0];rfl;kernel_rfl))
   (apply fqb;simp +decide only [go_sem,a1o]<;>rfl)
  ·have hlo':2 ≤ l.length:=Nat.le_of_not_lt hlo
   (repeat first|simp only [ww]|(apply xa;simp +decide only [go_sem,c3,ha];rfl;kernel_rfl))
   (apply fqb;simp +decide only [go_sem,a1o]<;>rfl)
  ·have hlo':2 ≤ l.length:=Nat.le_of_not_lt hlo
   (repeat first|simp only [ww]|(apply xa;simp +decide only [go_sem,c3,ha,hnt];rfl;kernel_rfl))
   (apply fqb;simp +decide only [go_sem,a1o]<;>rfl)
  ·have hlo':2 ≤ l.length:=Nat.le_of_not_lt hlo
   (repeat first|simp only [ww]|(apply xa;simp +decide only [go_sem,c3,ho];rfl;kernel_rfl))
   (apply fqb;simp +decide only [go_sem,a1o]<;>rfl)
  ·have hlo':2 ≤ l.length:=Nat.le_of_not_lt hlo
   (repeat first|simp only [ww]|(apply xa;simp +decide only [go_sem,c3,ho,hnt];rfl;kernel_rfl))
   (apply fqb;simp +decide only [go_sem,a1o]<;>rfl)
  ·have hlo':2 ≤ l.length:=Nat.le_of_not_lt hlo
   (repeat first|simp only [ww]|(apply xa;simp +decide only [go_sem,c3,hx];rfl;kernel_rfl))
   (apply fqb;simp +decide only [go_sem,a1o]<;>rfl)
  ·have hlo':2 ≤ l.length:=Nat.le_of_not_lt hlo
   (repeat first|simp only [ww]|(apply xa;simp +decide only [go_sem,c3,hx,hnt];rfl;kernel_rfl))
   (apply fqb;simp +decide only [go_sem,a1o]<;>rfl)
  ·have hlo':3 ≤ l.length:=Nat.le_of_not_lt hlo
   have g0:=hget 0 (by omega)
   have p0:0 < l.length:=by omega
   have g1:=hget 1 (by omega)
   have p1:1 < l.length:=by omega
   have g2:=hget 2 (by omega)
   have p2:2 < l.length:=by omega
   (repeat first|simp only [ww]|(apply xa;simp +decide only [go_sem,c3,hmx,g0,p0,g1,p1,g2,p2];rfl;kernel_rfl))
   (apply fqb;simp +decide only [go_sem,a1o]<;>rfl)
  ·have hlo':2 ≤ l.length:=Nat.le_of_not_lt hlo
   have g0:=hget 0 (by omega)
   have p0:0 < l.length:=by omega
   have g1:=hget 1 (by omega)
   have p1:1 < l.length:=by omega
   (repeat first|simp only [ww]|(apply xa;simp +decide only [go_sem,c3,htr,g0,p0,g1,p1];rfl;kernel_rfl))
   (apply fqb;simp +decide only [go_sem,a1o]<;>rfl)
  ·have hlo':1 ≤ l.length:=Nat.le_of_not_lt hlo
   (repeat first|simp only [ww]|(apply xa;simp +decide only [go_sem,c3,f2];rfl;kernel_rfl))
   (apply fqb;simp +decide only [go_sem,a1o]<;>rfl)
  ·have hlo':0 ≤ l.length:=Nat.le_of_not_lt hlo
   (repeat first|simp only [ww]|(apply xa;simp +decide only [go_sem,c3,f2];rfl;kernel_rfl))
   (apply fqb;simp +decide only [go_sem,a1o]<;>rfl)
theorem d26 (k:Nat) (hk:k < 16) (l:List W) (hl:l.length < 1000):sem L.env Mf 126 [.int .u8 k,.slice 0 0 l.length (some l.length)] [some (.row 2 (l.map W.enc))] = some (.agg (a3t k l).enc,[some (.row 2 (l.map W.enc))]):=by
 have hf:=fun H=>b0w (d:=false) H k hk
 have f0:=fun H=>a56 (d:=false) H 0 (by omega) (n:=0) rfl
 have f1:=fun H=>a56 (d:=false) H 1 (by omega) (n:=1) rfl
 have f2:=fun H=>a56 (d:=false) H 2 (by omega) (n:=2) rfl
 simp only [go_sem] at f0 f1 f2
 by_cases hlo:l.length < a21 k
 ·have c1:(l.length:Int) < a21 k:=by omega
  rw [show a3t k l = a2l 2 by simp [a3t,hlo]]
  (refine sv Tryz.f126 ?_;simp only [Tryz.f126,gS])
  (repeat first|simp only [ww]|(apply xa;simp +decide only [go_sem,hf,c1,f2];rfl;kernel_rfl))
  (apply fqb;simp +decide only [go_sem]<;>rfl)
 have c1:¬ (l.length:Int) < a21 k:=by omega
 by_cases hhi:a1p k < l.length
 ·have c2:(a1p k:Int) < l.length:=by omega
  rw [show a3t k l = a2l 2 by simp [a3t,hhi]]
  (refine sv Tryz.f126 ?_;simp only [Tryz.f126,gS])
  (repeat first|simp only [ww]|(apply xa;simp +decide only [go_sem,hf,c1,c2,f2];rfl;kernel_rfl))
  (apply fqb;simp +decide only [go_sem]<;>rfl)
 have c2:¬ (a1p k:Int) < l.length:=by omega
 have hb:¬ (l.length < a21 k ∨ a1p k < l.length):=by omega
 by_cases h13:k = 13
 ·subst h13
  rw [show a3t 13 l = c4y l by simp [a3t,hb]]
  have hbus:=fun X=>c8n l (by omega) X
  simp only [go_sem] at hbus
  (refine sv Tryz.f126 ?_;simp only [Tryz.f126,gS])
  (repeat first|simp only [ww]|(apply xa;simp +decide only [go_sem,hf,c1,c2,hbus];rfl;kernel_rfl))
  (apply fqb;simp +decide only [go_sem]<;>rfl)
 have c13:¬ (k:Int) = 13:=by omega
 have hrm:l.length ≤ 1000000000:=by omega
 (refine sv Tryz.f126 ?_;simp only [Tryz.f126,gS])
 (repeat first|simp only [ww]|(apply xa;simp +decide only [go_sem,hf,c1,c2,c13,hrm];rfl;kernel_rfl))
 refine a1c (σ:=Nat) kp126_0 (fun i=>[(0,.int .u8 k),(4,.ptr 1 0 0),(7,.slice 2 0 l.length (some l.length)),(33,.slice 0 0 l.length (some l.length)),(34,.int .i64 l.length),(35,.int .i64 i)])
  (fun i=>[some (.row 2 (l.map W.enc)),some (.row 2 [[u64 (BitVec.ofInt 64 0),u64 (BitVec.ofInt 64 0)]]),some (.row 2 ((rdW l i).map W.enc))]) (fun i=>l.length - i) (fun i=>i ≤ l.length) 0 ?_ (Nat.zero_le _) ?_ ?_
 ·(simp +decide only [go_sem,a02,a00,c1g,zW]<;>rfl)
 ·intro i _
  (simp +decide only [go_sem,a02,a00]<;>rfl)
 ·intro i hi
  by_cases hlt:i < l.length
  ·obtain ⟨x,hx⟩:∃ x,l[i]? = some x:=⟨_,z9e hlt⟩
   have c1:(i:Int) < l.length:=by omega
   have hw:=wI1 (n:=i) (by omega)
   have hs:=c1h hx
   have hg:=c65 hlt
   have hrd:=fun H=>b7s (d:=false) H x
   simp only [go_sem] at hrd
   (repeat first|simp only [ww]|(apply xa;simp +decide only [go_sem,c1,hlt,hx,hw,hg,hrd,zW,hs];rfl;kernel_rfl))
   refine a1m (i + 1) ?_ (by omega) (by omega)
   (simp +decide only [go_sem,a02,a00]<;>rfl)
  have hie:i = l.length:=by omega
  subst hie
  have c3:¬ (l.length:Int) < l.length:=by omega
  rw [c66]
  have hrl:(l.map a4n).length = l.length:=List.length_map ..
  have hlen:(l.map a4n).length < 1000000:=by omega
  have ha:=fun X Y=>c8w (l.map a4n) hlen X Y
  have ho:=fun X Y=>d0y (l.map a4n) hlen X Y
  have hx:=fun X Y=>c4u (l.map a4n) hlen X Y
  have hnt:=fun H w=>c1l (d:=false) H w
  have hmx:=fun H a b c=>c1o (d:=true) H a b c
  have htr:=fun H a b=>c0y (d:=true) H a b
  rw [hrl] at ha ho hx
  have hwe:a3t k l = a1o k (l.map a4n):=by unfold a3t;rw [if_neg hb,if_neg h13]
  rw [hwe]
  generalize l.map a4n = r at hrl hlen ha ho hx
  simp only [go_sem] at ha ho hx hnt hmx htr
  have hget:∀ i,i < l.length → r[i]? = some (r.getD i zW):=fun i hi=>by rw [List.getD,z9e (by omega)];rfl
  have hkk:k = 0 ∨ k = 1 ∨ k = 2 ∨ k = 3 ∨ k = 4 ∨ k = 5 ∨ k = 6 ∨ k = 7 ∨ k = 8 ∨ k = 9 ∨ k = 10 ∨ k = 11 ∨ k = 12 ∨ k = 14 ∨ k = 15:=by omega
  rcases hkk with rfl|rfl|rfl|rfl|rfl|rfl|rfl|rfl|rfl|rfl|rfl|rfl|rfl|rfl|rfl
  ·have hlo':0 ≤ l.length:=Nat.le_of_not_lt hlo
   (repeat first|simp only [ww]|(apply xa;simp +decide only [go_sem,c3,f2];rfl;kernel_rfl))
   (apply fqb;simp +decide only [go_sem,a1o]<;>rfl)
  ·have hlo':0 ≤ l.length:=Nat.le_of_not_lt hlo
   (repeat first|simp only [ww]|(apply xa;simp +decide only [go_sem,c3,f0];rfl;kernel_rfl))
   (apply fqb;simp +decide only [go_sem,a1o]<;>rfl)
  ·have hlo':0 ≤ l.length:=Nat.le_of_not_lt hlo
   (repeat first|simp only [ww]|(apply xa;simp +decide only [go_sem,c3,f1];rfl;kernel_rfl))
   (apply fqb;simp +decide only [go_sem,a1o]<;>rfl)
  ·have hlo':1 ≤ l.length:=Nat.le_of_not_lt hlo
   have g0:=hget 0 (by omega)
   have p0:0 < l.length:=by omega
   (repeat first|simp only [ww]|(apply xa;simp +decide only [go_sem,c3,g0,p0];rfl;kernel_rfl))
   (apply fqb;simp +decide only [go_sem,a1o]<;>rfl)
  ·have hlo':1 ≤ l.length:=Nat.le_of_not_lt hlo
   have g0:=hget 0 (by omega)
   have p0:0 < l.length:=by omega
   (repeat first|simp only [ww]|(apply xa;simp +decide only [go_sem,c3,hnt,g0,p0];rfl;kernel_rfl))
   (apply fqb;simp +decide only [go_sem,a1o]<;>rfl)
  ·have hlo':2 ≤ l.length:=Nat.le_of_not_lt hlo
   (repeat first|simp only [ww]|(apply xa;simp +decide only [go_sem,c3,ha];rfl;kernel_rfl))
   (apply fqb;simp +decide only [go_sem,a1o]<;>rfl)
  ·have hlo':2 ≤ l.length:=Nat.le_of_not_lt hlo
   (repeat first|simp only [ww]|(apply xa;simp +decide only [go_sem,c3,ha,hnt];rfl;kernel_rfl))
   (apply fqb;simp +decide only [go_sem,a1o]<;>rfl)
  ·have hlo':2 ≤ l.length:=Nat.le_of_not_lt hlo
   (repeat first|simp only [ww]|(apply xa;simp +decide only [go_sem,c3,ho];rfl;kernel_rfl))
   (apply fqb;simp +decide only [go_sem,a1o]<;>rfl)
  ·have hlo':2 ≤ l.length:=Nat.le_of_not_lt hlo
   (repeat first|simp only [ww]|(apply xa;simp +decide only [go_sem,c3,ho,hnt];rfl;kernel_rfl))
   (apply fqb;simp +decide only [go_sem,a1o]<;>rfl)
  ·have hlo':2 ≤ l.length:=Nat.le_of_not_lt hlo
   (repeat first|simp only [ww]|(apply xa;simp +decide only [go_sem,c3,hx];rfl;kernel_rfl))
   (apply fqb;simp +decide only [go_sem,a1o]<;>rfl)
  ·have hlo':2 ≤ l.length:=Nat.le_of_not_lt hlo
   (repeat first|simp only [ww]|(apply xa;simp +decide only [go_sem,c3,hx,hnt];rfl;kernel_rfl))
   (apply fqb;simp +decide only [go_sem,a1o]<;>rfl)
  ·have hlo':3 ≤ l.length:=Nat.le_of_not_lt hlo
   have g0:=hget 0 (by omega)
   have p0:0 < l.length:=by omega
   have g1:=hget 1 (by omega)
   have p1:1 < l.length:=by omega
   have g2:=hget 2 (by omega)
   have p2:2 < l.length:=by omega
   (repeat first|simp only [ww]|(apply xa;simp +decide only [go_sem,c3,hmx,g0,p0,g1,p1,g2,p2];rfl;kernel_rfl))
   (apply fqb;simp +decide only [go_sem,a1o]<;>rfl)
  ·have hlo':2 ≤ l.length:=Nat.le_of_not_lt hlo
   have g0:=hget 0 (by omega)
   have p0:0 < l.length:=by omega
   have g1:=hget 1 (by omega)
   have p1:1 < l.length:=by omega
   (repeat first|simp only [ww]|(apply xa;simp +decide only [go_sem,c3,htr,g0,p0,g1,p1];rfl;kernel_rfl))
   (apply fqb;simp +decide only [go_sem,a1o]<;>rfl)
  ·have hlo':1 ≤ l.length:=Nat.le_of_not_lt hlo
   (repeat first|simp only [ww]|(apply xa;simp +decide only [go_sem,c3,f2];rfl;kernel_rfl))
   (apply fqb;simp +decide only [go_sem,a1o]<;>rfl)
  ·have hlo':0 ≤ l.length:=Nat.le_of_not_lt hlo
   (repeat first|simp only [ww]|(apply xa;simp +decide only [go_sem,c3,f2];rfl;kernel_rfl))
   (apply fqb;simp +decide only [go_sem,a1o]<;>rfl)
def a46:List AV:=[.int .u8 0,.nilslice,.int .i64 0,.int .i64 0]
def dR (b:Nat):List AV:=[.int .u8 14,.slice b 0 1 (some 1),.int .i64 0,.int .i64 0]
def one (v:Nat):Option AObj:=some (.row 1 [[.int .i64 v]])
def xh (x:CX):Option AObj:=some (.row 12 [x.enc])
def rh:Option AObj:=some (.row 4 [[.nilslice,.nilslice,.nilslice,.nilslice]])
def nV:Nat → AV|0=>.nilslice|i + 1=>.slice 3 0 (i + 1) none
def nH:Nat → a06|0=>[]|i + 1=>[some (.row 4 (List.replicate (i + 1) a46))]
theorem nV0:nV 0 = .nilslice:=by rfl
theorem nVs (i:Nat):nV (i + 1) = .slice 3 0 (i + 1) none:=by rfl
theorem nH0:nH 0 = []:=by rfl
theorem nHs (i:Nat):nH (i + 1) = [some (.row 4 (List.replicate (i + 1) a46))]:=by rfl
theorem a53 {α:Type} (r:α) (n:Nat):List.replicate n r ++ [r] = List.replicate (n + 1) r:=by rw [List.replicate_succ']
theorem a08 (l:List Nd):(l.map Nd.enc).flatMap a0d = []:=a03 (FlatR.map fun x=>by simp only [Nd.enc,a0d,a2r,refs];rfl)
theorem a0h (π:Nat → Option Nat) (l:List Nd):(l.map Nd.enc).map (fun r=>r.map (ren π)) = l.map Nd.enc:=a01 π (FlatR.map fun x=>by simp only [Nd.enc,a0d,a2r,refs];rfl)
theorem c7l (b:Bool) (ks:List Nat):gN b ks [] = []:=by rfl
def slN (b:Nat):Nat → AV|0=>.nilslice|i + 1=>.slice b 0 (i + 1) none
theorem a6c (b:Nat):slN b 0 = .nilslice:=by rfl
theorem a3s (b i:Nat):slN b (i + 1) = .slice b 0 (i + 1) none:=by rfl
def nmR (j:Nat):List AV:=[.str (a2y j)]
def nmH:Nat → a06|0=>[]|i + 1=>[some (.row 1 ((List.range (i + 1)).map nmR))]
theorem b78:nmH 0 = []:=by rfl
theorem b1o (i:Nat):nmH (i + 1) = [some (.row 1 ((List.range (i + 1)).map nmR))]:=by rfl
theorem a13 (l:List Nat):(l.map nmR).flatMap a0d = []:=a03 (FlatR.map fun _=>rfl)
theorem a1g (π:Nat → Option Nat) (l:List Nat):(l.map nmR).map (fun r=>r.map (ren π)) = l.map nmR:=a01 π (FlatR.map fun _=>rfl)
theorem nm1:(List.range 1).map nmR = [[.str (a2y 0)]]:=by rfl
theorem b0n (i:Nat):(List.range (i + 1 + 1)).map nmR = (List.range (i + 1)).map nmR ++ [[.str (a2y (i + 1))]]:=by rw [List.range_succ,List.map_append];rfl
def otR (n o:Nat):List AV:=[.int .i64 (o % n:Nat)]
def otH (x:CX):Nat → a06|0=>[]|i + 1=>[some (.row 1 ((x.outs.take (i + 1)).map (otR x.n)))]
theorem b1l (x:CX):otH x 0 = []:=by rfl
theorem a7l (x:CX) (i:Nat):otH x (i + 1) = [some (.row 1 ((x.outs.take (i + 1)).map (otR x.n)))]:=by rfl
theorem a4y (n:Nat) (l:List Nat):(l.map (otR n)).flatMap a0d = []:=a03 (FlatR.map fun _=>rfl)
theorem a7i (n:Nat) (π:Nat → Option Nat) (l:List Nat):(l.map (otR n)).map (fun r=>r.map (ren π)) = l.map (otR n):=a01 π (FlatR.map fun _=>rfl)
theorem a2s {m:Nat} {d:AV → Option AV} {n:Nat} {r:List AV} (h:a0d r = []):a7m m d (List.replicate n r) = some (List.replicate n r):=a0s m d (FlatR.replicate h)
theorem a4b {m:Nat} {d:AV → Option AV} (l:List Nd):a7m m d (l.map Nd.enc) = some (l.map Nd.enc):=a0s m d (c29 l)
theorem a4a {m:Nat} {d:AV → Option AV} (l:List Nat):a7m m d (l.map nmR) = some (l.map nmR):=a0s m d (FlatR.map fun _=>rfl)
theorem a49 {m:Nat} {d:AV → Option AV} (n:Nat) (l:List Nat):a7m m d (l.map (otR n)) = some (l.map (otR n)):=a0s m d (FlatR.map fun _=>rfl)
theorem a22 {α:Type} {l:List α} {n:Nat} (h:(l.length ≤ n) = True):l.take n = l:=List.take_of_length_le (of_eq_true h)
theorem a47 (n:Nat) (l:List Nat):l.map (a0n ∘ fun o=>o % n) = l.map (otR n):=by rfl
theorem a48 (l:List Nat):l.map (a44 ∘ a2y) = l.map nmR:=by rfl
attribute [go_sem] a46 dR one xh rh nmR otR List.range_zero
theorem d6j (i:Nat) (hi:i < 100):sem L.env Mf 48 [.int .i64 i] [] = some (.str (a2y i),[]):=by
 have a1:IntKind.i64.wrap ((i / 10:Nat):Int) = ((i / 10:Nat):Int):=wI (by omega)
 have a2:IntKind.i64.wrap (48 + ((i / 10:Nat):Int)) = ((48 + i / 10:Nat):Int):=by rw [w64 (by omega) (by omega)];omega
 have a3:IntKind.i64.wrap (48 + ((i % 10:Nat):Int)) = ((48 + i % 10:Nat):Int):=by rw [w64 (by omega) (by omega)];omega
 have a4:IntKind.u8.wrap ((48 + i / 10:Nat):Int) = ((48 + i / 10:Nat):Int):=wB (by omega)
 have a5:IntKind.u8.wrap ((48 + i % 10:Nat):Int) = ((48 + i % 10:Nat):Int):=wB (by omega)
 (refine sv Tryz.f48 ?_;simp only [Tryz.f48,gS])
 (repeat first|simp only [ww]|(apply xa;simp +decide only [go_sem,a1,a2,a3,a4,a5];rfl;kernel_rfl))
 (apply fqb;simp +decide only [go_sem]<;>rfl)
theorem a6r {d:Bool} (H:a06) (i:Nat) (hi:i < 100):a0e L.env d (sem L.env Mf) (.func (.func 48) [] []) [.int .i64 i] H = some (.str (a2y i),H,[]):=
 a05 (by kernel_rfl) (by kernel_rfl) rfl rfl (d6j i hi) rfl
def trV (b:Nat) (l:List Nat):AV:=match l with|[]=>.nilslice|_ :: l=>.slice b 0 (l.length + 1) none
def trH (l:List Nat):a06:=match l with|[]=>[]|y :: l=>[some (.row 1 (a0n y :: l.map a0n))]
theorem d54 (b:Nat):trV b [] = .nilslice:=by rfl
theorem c9x (b y:Nat) (l:List Nat):trV b (y :: l) = .slice b 0 (l.length + 1) none:=by rfl
theorem d55:trH [] = []:=by rfl
theorem c9y (y:Nat) (l:List Nat):trH (y :: l) = [some (.row 1 (a0n y :: l.map a0n))]:=by rfl
theorem c7u (l:List Nat):(l.map a0n).flatMap a0d = []:=a03 (FlatR.map fun _=>rfl)
theorem d0n (π:Nat → Option Nat) (l:List Nat):(l.map a0n).map (fun r=>r.map (ren π)) = l.map a0n:=a01 π (FlatR.map fun _=>rfl)
attribute [go_sem] d54 c9x d55 c9y c7u d0n
theorem c5j (t:Nat) (l:List Nat) (j:Nat) (h:j < l.length + 1):([AV.int .i64 (t:Int)] :: List.map a0n l)[j]? = some [.int .i64 (((t :: l).getD j 0:Nat):Int)]:=by
 have e:([AV.int .i64 (t:Int)] :: List.map a0n l) = (t :: l).map a0n:=rfl
 rw [e,List.getElem?_map,z9e (by simpa using h)]
 simp [a0n,List.getD,z9e (show j < (t :: l).length by simpa using h)]
theorem b6e (m m1 m2 m3:Nat) (B:List Nat) (X:a06) (hX:(m = 1 ∧ m1 = 2 ∧ m2 = 3 ∧ m3 = 4 ∧ B = [] ∧ X = []) ∨ (m = 2 ∧ m1 = 3 ∧ m2 = 4 ∧ m3 = 5 ∧ B = [1] ∧ X = [some (.row 1 [[.int .i64 0]])]) ∨ (m = 3 ∧ m1 = 4 ∧ m2 = 5 ∧ m3 = 6 ∧ B = [1,2] ∧ X = [some (.row 1 [[.int .i64 0]]),some (.row 1 [[.int .i64 0]])])) (x:CX) (g:GX) (hg:g.ok) (R:List (List AV)) (ks:List Nat) (cap:Option Nat) (hk:KindRows R ks) (h0:0 < ks.length) (hl:ks.length < 1000) (hR:R.flatMap a0d = B) (hI:FixR m R) :
 sem L.env Mf 47 [.agg x.enc,.agg g.enc,.slice 0 0 ks.length cap] (some (.row 4 R) :: X) = some (.agg (a0o x.bus g ks).enc,(some (.row 4 R) :: X)):=by
 rcases hX with ⟨hm,hm1,hm2,hm3,hB,hX⟩|⟨hm,hm1,hm2,hm3,hB,hX⟩|⟨hm,hm1,hm2,hm3,hB,hX⟩
 all_goals
  obtain ⟨hg1,hg2,hg3,hg4⟩:=hg
  have w0:=wI (n:=g.i0) (by omega)
  have w1:=wI (n:=g.i1) (by omega)
  have w2:=wI (n:=g.i2) (by omega)
  have hn:¬ (ks.length:Int) = 0:=by omega
  have hI':∀ σ,R.map (fun r=>r.map (ren (b6d m σ))) = R:=fun σ=>hI _ (fun b hb=>by rw [c7i,decide_eq_true hb];rfl)
  have hI2:R.map (fun r=>r.map (ren (a19 m))) = R:=hI _ (fun b hb=>by rw [a6q,decide_eq_true hb];rfl)
  have w9:=wI (n:=g.kind % 9) (by omega)
  have w13:=wI (n:=g.kind % 13) (by omega)
  rw [hX]
  (refine sv Tryz.f47 ?_;simp only [Tryz.f47,gS])
  (repeat first|simp only [ww]|(apply xa;simp +decide only [go_sem,w0,w1,w2,hn];rfl;kernel_rfl))
  refine a1c (σ:=Nat) kp47_0
   (fun i=>[(2,.slice 0 0 ks.length cap),(3,.ptr m 0 0),(4,.ptr m1 0 0),(6,.ptr m2 0 0),(7,.int .i64 ks.length),(8,.int .i64 (g.i0 % ks.length:Nat)),(9,.int .i64 (g.i1 % ks.length:Nat)),(10,.int .i64 (g.i2 % ks.length:Nat)),(11,trV m3 (a5f ks i)),(12,.int .i64 i)])
   (fun i=>(some (.row 4 R) :: X) ++ [some (.row 12 [x.enc]),some (.row 4 [g.enc]),some (.row 4 [[.int .u8 0,.nilslice,.int .i64 0,.int .i64 0]])] ++ trH (a5f ks i)) (fun i=>ks.length - i) (fun i=>i ≤ ks.length) 0 ?_ (Nat.zero_le _) ?_ ?_
  ·subst hm hm1 hm2 hm3 hB hX
   (simp +decide only [go_sem,a02,a00,hR,hI']<;>rfl)
  ·subst hm hm1 hm2 hm3 hB hX
   intro i _
   cases htr:a5f ks i with
   | nil=>((simp +decide only [go_sem,a02,a00,hR,hI']<;>rfl))
   | cons a l=>((simp +decide only [go_sem,a02,a00,hR,hI',htr]<;>rfl))
  ·subst hm hm1 hm2 hm3 hB hX
   intro i hi
   by_cases hlt:i < ks.length
   ·obtain ⟨k,hki⟩:∃ k,ks[i]? = some k:=⟨_,z9e hlt⟩
    obtain ⟨v,y,z,hr⟩:=hk.2 i k hki
    have hd:(i:Int) < ks.length:=by omega
    have hw:=wI1 (n:=i) (by omega)
    have ht:=b9h hki
    have htl:=b7c ks i
    by_cases hk12:k = 12
    ·subst hk12
     rw [if_pos rfl] at ht
     cases htr:a5f ks i with
     | nil=>
      rw [htr] at ht
      (repeat first|simp only [ww]|(apply xa;simp +decide only [go_sem,hd,hlt,hr,hw];rfl;kernel_rfl))
      refine a1m (i + 1) ?_ (by omega) (by omega)
      ((simp +decide only [go_sem,a02,a00,hR,hI',ht]<;>rfl))
     | cons a l=>
      rw [htr] at ht
      rw [htr] at htl
      simp only [List.length_cons] at htl
      have hrm:l.length + 1 + 1 ≤ 1000000000:=by omega
      (repeat first|simp only [ww]|(apply xa;simp +decide only [go_sem,hd,hlt,hr,hw,hrm];rfl;kernel_rfl))
      refine a1m (i + 1) ?_ (by omega) (by omega)
      ((simp +decide only [go_sem,a02,a00,hR,hI',ht,List.map_append,List.flatMap_append]<;>rfl))
    ·rw [if_neg hk12] at ht
     have hk':¬ (k:Int) = 12:=by omega
     (repeat first|simp only [ww]|(apply xa;simp +decide only [go_sem,hd,hlt,hr,hw,hk'];rfl;kernel_rfl))
     refine a1m (i + 1) ?_ (by omega) (by omega)
     cases htr:a5f ks i with
     | nil=>
      rw [htr] at ht
      ((simp +decide only [go_sem,a02,a00,hR,hI',ht]<;>rfl))
     | cons a l=>
      rw [htr] at ht
      ((simp +decide only [go_sem,a02,a00,hR,hI',ht]<;>rfl))
   ·have hie:i = ks.length:=by omega
    subst hie
    have hd:¬ (ks.length:Int) < ks.length:=by omega
    rw [show a5f ks ks.length = a8v ks from rfl]
    have htl:(a8v ks).length ≤ ks.length:=b7c ks ks.length
    (repeat first|simp only [ww]|(apply xa;simp +decide only [go_sem,hd,w9,w13];rfl;kernel_rfl))
    rcases htr:a8v ks with _|⟨t,l⟩
    ·cases hb:x.bus with
     | true=>
      (repeat first|simp only [ww]|(apply xa;simp +decide only [go_sem,hb,w13];rfl;kernel_rfl))
      have wk:IntKind.u8.wrap (((g.kind % 13):Nat):Int) = ((g.kind % 13):Nat):=wB (by omega)
      have wk5:(g.kind % 13) < 6 → IntKind.u8.wrap (5 + (((g.kind % 13):Nat):Int)) = ((5 + (g.kind % 13):Nat):Int):=fun h=>by rw [IntWalk.u8_in _ ⟨by omega,by omega⟩];omega
      by_cases h6:(g.kind % 13) < 6
      ·have c6:(((g.kind % 13):Nat):Int) < 6:=by omega
       have wk5:=wk5 h6
       by_cases h128:128 ≤ g.kind
       ·have c128:(128:Int) ≤ g.kind:=by omega
        have e:a0o true g ks = ⟨5 + (g.kind % 13),some none,[g.i0 % ks.length,g.i1 % ks.length,g.i2 % ks.length],0,0⟩:=by simp [a0o,h6,h128]
        rw [e]
        (repeat first|simp only [ww]|(apply xa;simp +decide only [go_sem,c6,wk,wk5,c128];rfl;kernel_rfl))
        (apply fqb;simp +decide only [go_sem,hI2,hR]<;>rfl)
       ·have c128:¬ (128:Int) ≤ g.kind:=by omega
        have e:a0o true g ks = ⟨5 + (g.kind % 13),some (some 2),[g.i0 % ks.length,g.i1 % ks.length],0,0⟩:=by simp [a0o,h6,h128]
        rw [e]
        (repeat first|simp only [ww]|(apply xa;simp +decide only [go_sem,c6,wk,wk5,c128];rfl;kernel_rfl))
        (apply fqb;simp +decide only [go_sem,hI2,hR]<;>rfl)
      have c6:¬ (((g.kind % 13):Nat):Int) < 6:=by omega
      by_cases h7:(g.kind % 13) = 6
      ·have c7:(((g.kind % 13):Nat):Int) = 6:=by omega
       have e:a0o true g ks = ⟨4,some (some 1),[g.i0 % ks.length],0,0⟩:=by simp [a0o,h7]
       rw [e]
       (repeat first|simp only [ww]|(apply xa;simp +decide only [go_sem,c6,c7];rfl;kernel_rfl))
       (apply fqb;simp +decide only [go_sem,hI2,hR]<;>rfl)
      have c7:¬ (((g.kind % 13):Nat):Int) = 6:=by omega
      by_cases h8:(g.kind % 13) = 7
      ·have c8:(((g.kind % 13):Nat):Int) = 7:=by omega
       have e:a0o true g ks = ⟨11,some (some 3),[g.i0 % ks.length,g.i1 % ks.length,g.i2 % ks.length],0,0⟩:=by simp [a0o,h8]
       rw [e]
       (repeat first|simp only [ww]|(apply xa;simp +decide only [go_sem,c6,c7,c8];rfl;kernel_rfl))
       (apply fqb;simp +decide only [go_sem,hI2,hR]<;>rfl)
      have c8:¬ (((g.kind % 13):Nat):Int) = 7:=by omega
      by_cases h9:(g.kind % 13) = 9
      ·have c9:(((g.kind % 13):Nat):Int) = 9:=by omega
       have e:a0o true g ks = ⟨12,some (some 2),[g.i0 % ks.length,g.i1 % ks.length],0,0⟩:=by simp [a0o,h9]
       rw [e]
       (repeat first|simp only [ww]|(apply xa;simp +decide only [go_sem,c6,c7,c8,c9];rfl;kernel_rfl))
       (apply fqb;simp +decide only [go_sem,hI2,hR]<;>rfl)
      by_cases h10:(g.kind % 13) = 10
      ·have c9:¬ (((g.kind % 13):Nat):Int) = 9:=by omega
       have c10:(((g.kind % 13):Nat):Int) = 10:=by omega
       have e:a0o true g ks = ⟨12,some (some 2),[g.i0 % ks.length,g.i1 % ks.length],0,0⟩:=by simp [a0o,h10]
       rw [e]
       (repeat first|simp only [ww]|(apply xa;simp +decide only [go_sem,c6,c7,c8,c9,c10];rfl;kernel_rfl))
       (apply fqb;simp +decide only [go_sem,hI2,hR]<;>rfl)
      have c9:¬ (((g.kind % 13):Nat):Int) = 9:=by omega
      have c10:¬ (((g.kind % 13):Nat):Int) = 10:=by omega
      by_cases h11:10 < (g.kind % 13)
      ·have c11:(10:Int) < (((g.kind % 13):Nat):Int):=by omega
       by_cases h240:240 < g.kind
       ·have c240:(240:Int) < g.kind:=by omega
        have u1:IntKind.u8.wrap (1 + ((g.i0 % 2:Nat):Int)) = ((1 + g.i0 % 2:Nat):Int):=by rw [IntWalk.u8_in _ ⟨by omega,by omega⟩];omega
        have e:a0o true g ks = ⟨1 + g.i0 % 2,none,[],0,0⟩:=by simp [a0o,h6,h7,h8,h9,h10,h240,htr]
        rw [e]
        (repeat first|simp only [ww]|(apply xa;simp +decide only [go_sem,c6,c7,c8,c9,c10,c240,u1,c11];rfl;kernel_rfl))
        (apply fqb;simp +decide only [go_sem,hI2,hR]<;>rfl)
       ·have c240:¬ (240:Int) < g.kind:=by omega
        have e:a0o true g ks = ⟨3,some (some 1),[g.i0 % ks.length],0,0⟩:=by simp [a0o,h6,h7,h8,h9,h10,h240,htr]
        rw [e]
        (repeat first|simp only [ww]|(apply xa;simp +decide only [go_sem,c6,c7,c8,c9,c10,c240,c11];rfl;kernel_rfl))
        (apply fqb;simp +decide only [go_sem,hI2,hR]<;>rfl)
      ·have c11:¬ (10:Int) < (((g.kind % 13):Nat):Int):=by omega
       by_cases h240:240 < g.kind
       ·have c240:(240:Int) < g.kind:=by omega
        have u1:IntKind.u8.wrap (1 + ((g.i0 % 2:Nat):Int)) = ((1 + g.i0 % 2:Nat):Int):=by rw [IntWalk.u8_in _ ⟨by omega,by omega⟩];omega
        have e:a0o true g ks = ⟨1 + g.i0 % 2,none,[],0,0⟩:=by simp [a0o,h6,h7,h8,h9,h10,h240,h11]
        rw [e]
        (repeat first|simp only [ww]|(apply xa;simp +decide only [go_sem,c6,c7,c8,c9,c10,c240,u1,c11];rfl;kernel_rfl))
        (apply fqb;simp +decide only [go_sem,hI2,hR]<;>rfl)
       ·have c240:¬ (240:Int) < g.kind:=by omega
        have e:a0o true g ks = ⟨3,some (some 1),[g.i0 % ks.length],0,0⟩:=by simp [a0o,h6,h7,h8,h9,h10,h240,h11]
        rw [e]
        (repeat first|simp only [ww]|(apply xa;simp +decide only [go_sem,c6,c7,c8,c9,c10,c240,c11];rfl;kernel_rfl))
        (apply fqb;simp +decide only [go_sem,hI2,hR]<;>rfl)
     | false=>
      (repeat first|simp only [ww]|(apply xa;simp +decide only [go_sem,hb,w9];rfl;kernel_rfl))
      have wk:IntKind.u8.wrap (((g.kind % 9):Nat):Int) = ((g.kind % 9):Nat):=wB (by omega)
      have wk5:(g.kind % 9) < 6 → IntKind.u8.wrap (5 + (((g.kind % 9):Nat):Int)) = ((5 + (g.kind % 9):Nat):Int):=fun h=>by rw [IntWalk.u8_in _ ⟨by omega,by omega⟩];omega
      by_cases h6:(g.kind % 9) < 6
      ·have c6:(((g.kind % 9):Nat):Int) < 6:=by omega
       have wk5:=wk5 h6
       by_cases h128:128 ≤ g.kind
       ·have c128:(128:Int) ≤ g.kind:=by omega
        have e:a0o false g ks = ⟨5 + (g.kind % 9),some none,[g.i0 % ks.length,g.i1 % ks.length,g.i2 % ks.length],0,0⟩:=by simp [a0o,h6,h128]
        rw [e]
        (repeat first|simp only [ww]|(apply xa;simp +decide only [go_sem,c6,wk,wk5,c128];rfl;kernel_rfl))
        (apply fqb;simp +decide only [go_sem,hI2,hR]<;>rfl)
       ·have c128:¬ (128:Int) ≤ g.kind:=by omega
        have e:a0o false g ks = ⟨5 + (g.kind % 9),some (some 2),[g.i0 % ks.length,g.i1 % ks.length],0,0⟩:=by simp [a0o,h6,h128]
        rw [e]
        (repeat first|simp only [ww]|(apply xa;simp +decide only [go_sem,c6,wk,wk5,c128];rfl;kernel_rfl))
        (apply fqb;simp +decide only [go_sem,hI2,hR]<;>rfl)
      have c6:¬ (((g.kind % 9):Nat):Int) < 6:=by omega
      by_cases h7:(g.kind % 9) = 6
      ·have c7:(((g.kind % 9):Nat):Int) = 6:=by omega
       have e:a0o false g ks = ⟨4,some (some 1),[g.i0 % ks.length],0,0⟩:=by simp [a0o,h7]
       rw [e]
       (repeat first|simp only [ww]|(apply xa;simp +decide only [go_sem,c6,c7];rfl;kernel_rfl))
       (apply fqb;simp +decide only [go_sem,hI2,hR]<;>rfl)
      have c7:¬ (((g.kind % 9):Nat):Int) = 6:=by omega
      by_cases h8:(g.kind % 9) = 7
      ·have c8:(((g.kind % 9):Nat):Int) = 7:=by omega
       have e:a0o false g ks = ⟨11,some (some 3),[g.i0 % ks.length,g.i1 % ks.length,g.i2 % ks.length],0,0⟩:=by simp [a0o,h8]
       rw [e]
       (repeat first|simp only [ww]|(apply xa;simp +decide only [go_sem,c6,c7,c8];rfl;kernel_rfl))
       (apply fqb;simp +decide only [go_sem,hI2,hR]<;>rfl)
      have c8:¬ (((g.kind % 9):Nat):Int) = 7:=by omega
      have c9:¬ (((g.kind % 9):Nat):Int) = 9:=by omega
      have c10:¬ (((g.kind % 9):Nat):Int) = 10:=by omega
      have n9:¬ (g.kind % 9) = 9:=by omega
      have n10:¬ (g.kind % 9) = 10:=by omega
      have c11:¬ (10:Int) < (((g.kind % 9):Nat):Int):=by omega
      have n11:¬ 10 < (g.kind % 9):=by omega
      by_cases h240:240 < g.kind
      ·have c240:(240:Int) < g.kind:=by omega
       have u1:IntKind.u8.wrap (1 + ((g.i0 % 2:Nat):Int)) = ((1 + g.i0 % 2:Nat):Int):=by rw [IntWalk.u8_in _ ⟨by omega,by omega⟩];omega
       have e:a0o false g ks = ⟨1 + g.i0 % 2,none,[],0,0⟩:=by simp [a0o,h6,h7,h8,n9,n10,h240,n11]
       rw [e]
       (repeat first|simp only [ww]|(apply xa;simp +decide only [go_sem,c6,c7,c8,c9,c10,c240,u1,c11];rfl;kernel_rfl))
       (apply fqb;simp +decide only [go_sem,hI2,hR]<;>rfl)
      ·have c240:¬ (240:Int) < g.kind:=by omega
       have e:a0o false g ks = ⟨3,some (some 1),[g.i0 % ks.length],0,0⟩:=by simp [a0o,h6,h7,h8,n9,n10,h240,n11]
       rw [e]
       (repeat first|simp only [ww]|(apply xa;simp +decide only [go_sem,c6,c7,c8,c9,c10,c240,c11];rfl;kernel_rfl))
       (apply fqb;simp +decide only [go_sem,hI2,hR]<;>rfl)
    ·cases hb:x.bus with
     | true=>
      (repeat first|simp only [ww]|(apply xa;simp +decide only [go_sem,hb,w13];rfl;kernel_rfl))
      have wk:IntKind.u8.wrap (((g.kind % 13):Nat):Int) = ((g.kind % 13):Nat):=wB (by omega)
      have wk5:(g.kind % 13) < 6 → IntKind.u8.wrap (5 + (((g.kind % 13):Nat):Int)) = ((5 + (g.kind % 13):Nat):Int):=fun h=>by rw [IntWalk.u8_in _ ⟨by omega,by omega⟩];omega
      by_cases h6:(g.kind % 13) < 6
      ·have c6:(((g.kind % 13):Nat):Int) < 6:=by omega
       have wk5:=wk5 h6
       by_cases h128:128 ≤ g.kind
       ·have c128:(128:Int) ≤ g.kind:=by omega
        have e:a0o true g ks = ⟨5 + (g.kind % 13),some none,[g.i0 % ks.length,g.i1 % ks.length,g.i2 % ks.length],0,0⟩:=by simp [a0o,h6,h128]
        rw [e]
        (repeat first|simp only [ww]|(apply xa;simp +decide only [go_sem,c6,wk,wk5,c128];rfl;kernel_rfl))
        (apply fqb;simp +decide only [go_sem,hI2,hR]<;>rfl)
       ·have c128:¬ (128:Int) ≤ g.kind:=by omega
        have e:a0o true g ks = ⟨5 + (g.kind % 13),some (some 2),[g.i0 % ks.length,g.i1 % ks.length],0,0⟩:=by simp [a0o,h6,h128]
        rw [e]
        (repeat first|simp only [ww]|(apply xa;simp +decide only [go_sem,c6,wk,wk5,c128];rfl;kernel_rfl))
        (apply fqb;simp +decide only [go_sem,hI2,hR]<;>rfl)
      have c6:¬ (((g.kind % 13):Nat):Int) < 6:=by omega
      by_cases h7:(g.kind % 13) = 6
      ·have c7:(((g.kind % 13):Nat):Int) = 6:=by omega
       have e:a0o true g ks = ⟨4,some (some 1),[g.i0 % ks.length],0,0⟩:=by simp [a0o,h7]
       rw [e]
       (repeat first|simp only [ww]|(apply xa;simp +decide only [go_sem,c6,c7];rfl;kernel_rfl))
       (apply fqb;simp +decide only [go_sem,hI2,hR]<;>rfl)
      have c7:¬ (((g.kind % 13):Nat):Int) = 6:=by omega
      by_cases h8:(g.kind % 13) = 7
      ·have c8:(((g.kind % 13):Nat):Int) = 7:=by omega
       have e:a0o true g ks = ⟨11,some (some 3),[g.i0 % ks.length,g.i1 % ks.length,g.i2 % ks.length],0,0⟩:=by simp [a0o,h8]
       rw [e]
       (repeat first|simp only [ww]|(apply xa;simp +decide only [go_sem,c6,c7,c8];rfl;kernel_rfl))
       (apply fqb;simp +decide only [go_sem,hI2,hR]<;>rfl)
      have c8:¬ (((g.kind % 13):Nat):Int) = 7:=by omega
      by_cases h9:(g.kind % 13) = 9
      ·have c9:(((g.kind % 13):Nat):Int) = 9:=by omega
       have e:a0o true g ks = ⟨12,some (some 2),[g.i0 % ks.length,g.i1 % ks.length],0,0⟩:=by simp [a0o,h9]
       rw [e]
       (repeat first|simp only [ww]|(apply xa;simp +decide only [go_sem,c6,c7,c8,c9];rfl;kernel_rfl))
       (apply fqb;simp +decide only [go_sem,hI2,hR]<;>rfl)
      by_cases h10:(g.kind % 13) = 10
      ·have c9:¬ (((g.kind % 13):Nat):Int) = 9:=by omega
       have c10:(((g.kind % 13):Nat):Int) = 10:=by omega
       have e:a0o true g ks = ⟨12,some (some 2),[g.i0 % ks.length,g.i1 % ks.length],0,0⟩:=by simp [a0o,h10]
       rw [e]
       (repeat first|simp only [ww]|(apply xa;simp +decide only [go_sem,c6,c7,c8,c9,c10];rfl;kernel_rfl))
       (apply fqb;simp +decide only [go_sem,hI2,hR]<;>rfl)
      have c9:¬ (((g.kind % 13):Nat):Int) = 9:=by omega
      have c10:¬ (((g.kind % 13):Nat):Int) = 10:=by omega
      by_cases h11:10 < (g.kind % 13)
      ·have c11:(10:Int) < (((g.kind % 13):Nat):Int):=by omega
       simp only [htr,List.length_cons] at htl
       have cp:(0:Int) < ((l.length + 1:Nat):Int):=by omega
       have nl:¬ ((l.length + 1:Nat):Int) = 0:=by omega
       have jl:g.i0 % (l.length + 1) < l.length + 1:=Nat.mod_lt _ (by omega)
       have hj:([AV.int .i64 (t:Int)] :: List.map a0n l)[g.i0 % (l.length + 1)]? = some [.int .i64 (((t :: l).getD (g.i0 % (l.length + 1)) 0:Nat):Int)]:=c5j t l _ jl
       by_cases h1:1 < l.length + 1
       ·have c1:(1:Int) < ((l.length + 1:Nat):Int):=by omega
        have kl:(g.i0 % (l.length + 1) + 1) % (l.length + 1) < l.length + 1:=Nat.mod_lt _ (by omega)
        have hk2:([AV.int .i64 (t:Int)] :: List.map a0n l)[(g.i0 % (l.length + 1) + 1) % (l.length + 1)]? = some [.int .i64 (((t :: l).getD ((g.i0 % (l.length + 1) + 1) % (l.length + 1)) 0:Nat):Int)]:=c5j t l _ kl
        have wj:=wI1 (n:=g.i0 % (l.length + 1)) (by omega)
        have e:a0o true g ks = ⟨13,some none,[(t :: l).getD (g.i0 % (l.length + 1)) 0,(t :: l).getD ((g.i0 % (l.length + 1) + 1) % (l.length + 1)) 0],0,0⟩:=by simp [a0o,h6,h7,h8,h9,h10,h11,htr,h1]
        rw [e]
        (repeat first|simp only [ww]|(apply xa;simp +decide only [go_sem,c6,c7,c8,c9,c10,c11,cp,nl,w0,jl,hj,c1,kl,hk2,wj];rfl;kernel_rfl))
        (apply fqb;simp +decide only [go_sem,hI2,hR]<;>rfl)
       ·have c1:¬ (1:Int) < ((l.length + 1:Nat):Int):=by omega
        have e:a0o true g ks = ⟨13,some (some 1),[(t :: l).getD (g.i0 % (l.length + 1)) 0],0,0⟩:=by simp [a0o,h6,h7,h8,h9,h10,h11,htr,h1]
        rw [e]
        (repeat first|simp only [ww]|(apply xa;simp +decide only [go_sem,c6,c7,c8,c9,c10,c11,cp,nl,w0,jl,hj,c1];rfl;kernel_rfl))
        (apply fqb;simp +decide only [go_sem,hI2,hR]<;>rfl)
      ·have c11:¬ (10:Int) < (((g.kind % 13):Nat):Int):=by omega
       by_cases h240:240 < g.kind
       ·have c240:(240:Int) < g.kind:=by omega
        have u1:IntKind.u8.wrap (1 + ((g.i0 % 2:Nat):Int)) = ((1 + g.i0 % 2:Nat):Int):=by rw [IntWalk.u8_in _ ⟨by omega,by omega⟩];omega
        have e:a0o true g ks = ⟨1 + g.i0 % 2,none,[],0,0⟩:=by simp [a0o,h6,h7,h8,h9,h10,h240,h11]
        rw [e]
        (repeat first|simp only [ww]|(apply xa;simp +decide only [go_sem,c6,c7,c8,c9,c10,c240,u1,c11];rfl;kernel_rfl))
        (apply fqb;simp +decide only [go_sem,hI2,hR]<;>rfl)
       ·have c240:¬ (240:Int) < g.kind:=by omega
        have e:a0o true g ks = ⟨3,some (some 1),[g.i0 % ks.length],0,0⟩:=by simp [a0o,h6,h7,h8,h9,h10,h240,h11]
        rw [e]
        (repeat first|simp only [ww]|(apply xa;simp +decide only [go_sem,c6,c7,c8,c9,c10,c240,c11];rfl;kernel_rfl))
        (apply fqb;simp +decide only [go_sem,hI2,hR]<;>rfl)
     | false=>
      (repeat first|simp only [ww]|(apply xa;simp +decide only [go_sem,hb,w9];rfl;kernel_rfl))
      have wk:IntKind.u8.wrap (((g.kind % 9):Nat):Int) = ((g.kind % 9):Nat):=wB (by omega)
      have wk5:(g.kind % 9) < 6 → IntKind.u8.wrap (5 + (((g.kind % 9):Nat):Int)) = ((5 + (g.kind % 9):Nat):Int):=fun h=>by rw [IntWalk.u8_in _ ⟨by omega,by omega⟩];omega
      by_cases h6:(g.kind % 9) < 6
      ·have c6:(((g.kind % 9):Nat):Int) < 6:=by omega
       have wk5:=wk5 h6
       by_cases h128:128 ≤ g.kind
       ·have c128:(128:Int) ≤ g.kind:=by omega
        have e:a0o false g ks = ⟨5 + (g.kind % 9),some none,[g.i0 % ks.length,g.i1 % ks.length,g.i2 % ks.length],0,0⟩:=by simp [a0o,h6,h128]
        rw [e]
        (repeat first|simp only [ww]|(apply xa;simp +decide only [go_sem,c6,wk,wk5,c128];rfl;kernel_rfl))
        (apply fqb;simp +decide only [go_sem,hI2,hR]<;>rfl)
       ·have c128:¬ (128:Int) ≤ g.kind:=by omega
        have e:a0o false g ks = ⟨5 + (g.kind % 9),some (some 2),[g.i0 % ks.length,g.i1 % ks.length],0,0⟩:=by simp [a0o,h6,h128]
        rw [e]
        (repeat first|simp only [ww]|(apply xa;simp +decide only [go_sem,c6,wk,wk5,c128];rfl;kernel_rfl))
        (apply fqb;simp +decide only [go_sem,hI2,hR]<;>rfl)
      have c6:¬ (((g.kind % 9):Nat):Int) < 6:=by omega
      by_cases h7:(g.kind % 9) = 6
      ·have c7:(((g.kind % 9):Nat):Int) = 6:=by omega
       have e:a0o false g ks = ⟨4,some (some 1),[g.i0 % ks.length],0,0⟩:=by simp [a0o,h7]
       rw [e]
       (repeat first|simp only [ww]|(apply xa;simp +decide only [go_sem,c6,c7];rfl;kernel_rfl))
       (apply fqb;simp +decide only [go_sem,hI2,hR]<;>rfl)
      have c7:¬ (((g.kind % 9):Nat):Int) = 6:=by omega
      by_cases h8:(g.kind % 9) = 7
      ·have c8:(((g.kind % 9):Nat):Int) = 7:=by omega
       have e:a0o false g ks = ⟨11,some (some 3),[g.i0 % ks.length,g.i1 % ks.length,g.i2 % ks.length],0,0⟩:=by simp [a0o,h8]
       rw [e]
       (repeat first|simp only [ww]|(apply xa;simp +decide only [go_sem,c6,c7,c8];rfl;kernel_rfl))
       (apply fqb;simp +decide only [go_sem,hI2,hR]<;>rfl)
      have c8:¬ (((g.kind % 9):Nat):Int) = 7:=by omega
      have c9:¬ (((g.kind % 9):Nat):Int) = 9:=by omega
      have c10:¬ (((g.kind % 9):Nat):Int) = 10:=by omega
      have n9:¬ (g.kind % 9) = 9:=by omega
      have n10:¬ (g.kind % 9) = 10:=by omega
      have c11:¬ (10:Int) < (((g.kind % 9):Nat):Int):=by omega
      have n11:¬ 10 < (g.kind % 9):=by omega
      by_cases h240:240 < g.kind
      ·have c240:(240:Int) < g.kind:=by omega
       have u1:IntKind.u8.wrap (1 + ((g.i0 % 2:Nat):Int)) = ((1 + g.i0 % 2:Nat):Int):=by rw [IntWalk.u8_in _ ⟨by omega,by omega⟩];omega
       have e:a0o false g ks = ⟨1 + g.i0 % 2,none,[],0,0⟩:=by simp [a0o,h6,h7,h8,n9,n10,h240,n11]
       rw [e]
       (repeat first|simp only [ww]|(apply xa;simp +decide only [go_sem,c6,c7,c8,c9,c10,c240,u1,c11];rfl;kernel_rfl))
       (apply fqb;simp +decide only [go_sem,hI2,hR]<;>rfl)
      ·have c240:¬ (240:Int) < g.kind:=by omega
       have e:a0o false g ks = ⟨3,some (some 1),[g.i0 % ks.length],0,0⟩:=by simp [a0o,h6,h7,h8,n9,n10,h240,n11]
       rw [e]
       (repeat first|simp only [ww]|(apply xa;simp +decide only [go_sem,c6,c7,c8,c9,c10,c240,c11];rfl;kernel_rfl))
       (apply fqb;simp +decide only [go_sem,hI2,hR]<;>rfl)
theorem d1w (x:CX) (g:GX) (hg:g.ok) (R:List (List AV)) (ks:List Nat) (cap:Option Nat) (hk:KindRows R ks) (h0:0 < ks.length) (hl:ks.length < 1000) (hR:R.flatMap a0d = []) (hI:FixR 1 R) :
 sem L.env Mf 47 [.agg x.enc,.agg g.enc,.slice 0 0 ks.length cap] [some (.row 4 R)] = some (.agg (a0o x.bus g ks).enc,[some (.row 4 R)]):=b6e 1 2 3 4 _ _ (.inl ⟨rfl,rfl,rfl,rfl,rfl,rfl⟩) x g hg R ks cap hk h0 hl hR hI
theorem d1v (x:CX) (g:GX) (hg:g.ok) (R:List (List AV)) (ks:List Nat) (cap:Option Nat) (hk:KindRows R ks) (h0:0 < ks.length) (hl:ks.length < 1000) (hR:R.flatMap a0d = [1]) (hI:FixR 2 R) :
 sem L.env Mf 47 [.agg x.enc,.agg g.enc,.slice 0 0 ks.length cap] [some (.row 4 R),some (.row 1 [[.int .i64 0]])] = some (.agg (a0o x.bus g ks).enc,[some (.row 4 R),some (.row 1 [[.int .i64 0]])]):=b6e 2 3 4 5 _ _ (.inr (.inl ⟨rfl,rfl,rfl,rfl,rfl,rfl⟩)) x g hg R ks cap hk h0 hl hR hI
theorem d1u (x:CX) (g:GX) (hg:g.ok) (R:List (List AV)) (ks:List Nat) (cap:Option Nat) (hk:KindRows R ks) (h0:0 < ks.length) (hl:ks.length < 1000) (hR:R.flatMap a0d = [1,2]) (hI:FixR 3 R) :
 sem L.env Mf 47 [.agg x.enc,.agg g.enc,.slice 0 0 ks.length cap] [some (.row 4 R),some (.row 1 [[.int .i64 0]]),some (.row 1 [[.int .i64 0]])] = some (.agg (a0o x.bus g ks).enc,[some (.row 4 R),some (.row 1 [[.int .i64 0]]),some (.row 1 [[.int .i64 0]])]):=b6e 3 4 5 6 _ _ (.inr (.inr ⟨rfl,rfl,rfl,rfl,rfl,rfl⟩)) x g hg R ks cap hk h0 hl hR hI
theorem c3v {d:Bool} (x:CX) (g:GX) (hg:g.ok) (gs:List Nd) (k n:Nat) (hk:0 < k) (hn:n = k + 0 + gs.length) (hl:n < 1000) (X0 X1 X2:Option AObj) :
 a0e L.env d (sem L.env Mf) (.func (.func 47) [] []) [.agg x.enc,.agg g.enc,.slice 3 0 n none] [X0,X1,X2,some (.row 4 (List.replicate k a46 ++ [] ++ gs.map Nd.enc))] = some (.agg (a0o x.bus g (List.replicate k 0 ++ List.replicate 0 14 ++ gs.map Nd.kind)).enc,[X0,X1,X2,some (.row 4 (List.replicate k a46 ++ [] ++ gs.map Nd.enc))],[3]):=by
 have hkr:KindRows (List.replicate k a46 ++ [] ++ gs.map Nd.enc) (List.replicate k 0 ++ List.replicate 0 14 ++ gs.map Nd.kind):=(((KindRows.rep k 0 _ _ _).append KindRows.nil).append (KindRows.nds gs))
 have hlen:(List.replicate k 0 ++ List.replicate 0 14 ++ gs.map Nd.kind).length = n:=by simp;omega
 have hr:=d1w x g hg (List.replicate k a46 ++ [] ++ gs.map Nd.enc) (List.replicate k 0 ++ List.replicate 0 14 ++ gs.map Nd.kind) none hkr (by rw [hlen];omega) (by rw [hlen];exact hl) (by simp +decide only [go_sem,a08]) ?_
 ·rw [hlen] at hr
  have hc:=a0y (sem L.env Mf 47) [.agg x.enc,.agg g.enc,.slice 3 0 n none] [X0,X1,X2,some (.row 4 (List.replicate k a46 ++ [] ++ gs.map Nd.enc))] (σ:=[3]) (by simp +decide only [go_sem,a08]) (by decide) (by simp +decide only [go_sem]) (args':=[.agg x.enc,.agg g.enc,.slice 0 0 n none]) (by simp +decide only [go_sem]) (H0:=[some (.row 4 (List.replicate k a46 ++ [] ++ gs.map Nd.enc))]) (by simp +decide only [go_sem,a08,a0h]) hr
  refine a23 (by kernel_rfl) (by kernel_rfl) rfl (hc.trans ?_) rfl
  simp +decide only [go_sem,a08,a0h]<;>rfl
 ·refine FixR.append (FixR.append (FixR.flat (FlatR.replicate rfl)) ?_) (FixR.flat (c29 gs))
  intro π hπ
  simp +decide only [go_sem]
theorem c3u {d:Bool} (x:CX) (g:GX) (hg:g.ok) (gs:List Nd) (k n:Nat) (hk:0 < k) (hn:n = k + 1 + gs.length) (hl:n < 1000) (X0 X1 X2:Option AObj) :
 a0e L.env d (sem L.env Mf) (.func (.func 47) [] []) [.agg x.enc,.agg g.enc,.slice 3 0 n none] [X0,X1,X2,some (.row 4 (List.replicate k a46 ++ [dR 4] ++ gs.map Nd.enc)),one 0] = some (.agg (a0o x.bus g (List.replicate k 0 ++ List.replicate 1 14 ++ gs.map Nd.kind)).enc,[X0,X1,X2,some (.row 4 (List.replicate k a46 ++ [dR 4] ++ gs.map Nd.enc)),one 0],[3,4]):=by
 have hkr:KindRows (List.replicate k a46 ++ [dR 1] ++ gs.map Nd.enc) (List.replicate k 0 ++ List.replicate 1 14 ++ gs.map Nd.kind):=(((KindRows.rep k 0 _ _ _).append (KindRows.nil).cons).append (KindRows.nds gs))
 have hlen:(List.replicate k 0 ++ List.replicate 1 14 ++ gs.map Nd.kind).length = n:=by simp;omega
 have hr:=d1v x g hg (List.replicate k a46 ++ [dR 1] ++ gs.map Nd.enc) (List.replicate k 0 ++ List.replicate 1 14 ++ gs.map Nd.kind) none hkr (by rw [hlen];omega) (by rw [hlen];exact hl) (by simp +decide only [go_sem,a08]) ?_
 ·rw [hlen] at hr
  have hc:=a0y (sem L.env Mf 47) [.agg x.enc,.agg g.enc,.slice 3 0 n none] [X0,X1,X2,some (.row 4 (List.replicate k a46 ++ [dR 4] ++ gs.map Nd.enc)),one 0] (σ:=[3,4]) (by simp +decide only [go_sem,a08]) (by decide) (by simp +decide only [go_sem]) (args':=[.agg x.enc,.agg g.enc,.slice 0 0 n none]) (by simp +decide only [go_sem]) (H0:=[some (.row 4 (List.replicate k a46 ++ [dR 1] ++ gs.map Nd.enc)),one 0]) (by simp +decide only [go_sem,a08,a0h]) hr
  refine a23 (by kernel_rfl) (by kernel_rfl) rfl (hc.trans ?_) rfl
  simp +decide only [go_sem,a08,a0h]<;>rfl
 ·refine FixR.append (FixR.append (FixR.flat (FlatR.replicate rfl)) ?_) (FixR.flat (c29 gs))
  intro π hπ
  simp +decide only [go_sem,hπ 1 (by omega)]
theorem c3t {d:Bool} (x:CX) (g:GX) (hg:g.ok) (gs:List Nd) (k n:Nat) (hk:0 < k) (hn:n = k + 2 + gs.length) (hl:n < 1000) (X0 X1 X2:Option AObj) :
 a0e L.env d (sem L.env Mf) (.func (.func 47) [] []) [.agg x.enc,.agg g.enc,.slice 3 0 n none] [X0,X1,X2,some (.row 4 (List.replicate k a46 ++ [dR 4,dR 5] ++ gs.map Nd.enc)),one 0,one 0] = some (.agg (a0o x.bus g (List.replicate k 0 ++ List.replicate 2 14 ++ gs.map Nd.kind)).enc,[X0,X1,X2,some (.row 4 (List.replicate k a46 ++ [dR 4,dR 5] ++ gs.map Nd.enc)),one 0,one 0],[3,4,5]):=by
 have hkr:KindRows (List.replicate k a46 ++ [dR 1,dR 2] ++ gs.map Nd.enc) (List.replicate k 0 ++ List.replicate 2 14 ++ gs.map Nd.kind):=(((KindRows.rep k 0 _ _ _).append ((KindRows.nil).cons).cons).append (KindRows.nds gs))
 have hlen:(List.replicate k 0 ++ List.replicate 2 14 ++ gs.map Nd.kind).length = n:=by simp;omega
 have hr:=d1u x g hg (List.replicate k a46 ++ [dR 1,dR 2] ++ gs.map Nd.enc) (List.replicate k 0 ++ List.replicate 2 14 ++ gs.map Nd.kind) none hkr (by rw [hlen];omega) (by rw [hlen];exact hl) (by simp +decide only [go_sem,a08]) ?_
 ·rw [hlen] at hr
  have hc:=a0y (sem L.env Mf 47) [.agg x.enc,.agg g.enc,.slice 3 0 n none] [X0,X1,X2,some (.row 4 (List.replicate k a46 ++ [dR 4,dR 5] ++ gs.map Nd.enc)),one 0,one 0] (σ:=[3,4,5]) (by simp +decide only [go_sem,a08]) (by decide) (by simp +decide only [go_sem]) (args':=[.agg x.enc,.agg g.enc,.slice 0 0 n none]) (by simp +decide only [go_sem]) (H0:=[some (.row 4 (List.replicate k a46 ++ [dR 1,dR 2] ++ gs.map Nd.enc)),one 0,one 0]) (by simp +decide only [go_sem,a08,a0h]) hr
  refine a23 (by kernel_rfl) (by kernel_rfl) rfl (hc.trans ?_) rfl
  simp +decide only [go_sem,a08,a0h]<;>rfl
 ·refine FixR.append (FixR.append (FixR.flat (FlatR.replicate rfl)) ?_) (FixR.flat (c29 gs))
  intro π hπ
  simp +decide only [go_sem,hπ 1 (by omega),hπ 2 (by omega)]
theorem e19 (x:CX) (hx:x.ok) (hm:x.mem = false) (hd:x.d = 0) :
 sem L.env Mf 27 [.agg x.enc] [] = some (.agg x.cir.enc,[]):=by
 obtain ⟨x1,x2,x3,x4,x5,x6⟩:=hx
 have hk1:x.inn % 4 + 1 = x.k:=rfl
 have hd':x.dffs % 3 = 0:=hd
 have kk:x.k ≤ 4:=by unfold CX.k;omega
 have kp:0 < x.k:=by unfold CX.k;omega
 have gl:x.gs.length ≤ 8:=by unfold CX.gs;rw [List.length_take];omega
 have w4:=wI (n:=x.inn % 4) (by omega)
 have w3:=wI (n:=x.dffs % 3) (by omega)
 obtain ⟨k',hk'⟩:∃ k',x.k = k' + 1:=⟨x.k - 1,by omega⟩
 (refine sv Tryz.f27 ?_;simp only [Tryz.f27,gS])
 (repeat first|simp only [ww]|(apply xa;simp +decide only [go_sem];rfl;kernel_rfl))
 -- the inputs
 refine a1c (σ:=Nat) kp27_0 (fun i=>[(1,.ptr 0 0 0),(2,.ptr 1 0 0),(3,.ptr 2 0 0),(4,.int .i64 i)])
  (fun i=>[xh x,rh,some (.row 4 [[nV i,.nilslice,.nilslice,.nilslice]])] ++ nH i) (fun i=>x.k - i) (fun i=>i ≤ x.k) 0 ?_ (Nat.zero_le _) ?_ ?_
 ·(simp +decide only [go_sem,a02,a00,nV0,nH0]<;>rfl)
 ·intro i _
  cases i with
  | zero=>((simp +decide only [go_sem,a02,a00,nV0,nH0]<;>rfl))
  | succ i=>((simp +decide only [go_sem,a02,a00,nVs,nHs]<;>rfl))
 ·intro i hi
  by_cases hlt:i < x.k
  ·have c1:(i:Int) ≤ ((x.inn % 4:Nat):Int):=by omega
   have hw:=wI1 (n:=i) (by omega)
   cases i with
   | zero=>
    (repeat first|simp only [ww]|(apply xa;simp +decide only [go_sem,w4,c1,hw,nV0,nH0];rfl;kernel_rfl))
    refine a1m 1 ?_ (by omega) (by omega)
    ((simp +decide only [go_sem,a02,a00,nVs,nHs]<;>rfl))
   | succ i=>
    have hrm:i + 1 + 1 ≤ 1000000000:=by omega
    (repeat first|simp only [ww]|(apply xa;simp +decide only [go_sem,w4,c1,hw,nVs,nHs,hrm,a53];rfl;kernel_rfl))
    refine a1m (i + 1 + 1) ?_ (by omega) (by omega)
    ((simp +decide only [go_sem,a02,a00,nVs,nHs,a53]<;>rfl))
  have hik:i = x.k:=by omega
  subst hik
  have c1:¬ ((x.k:Nat):Int) ≤ ((x.inn % 4:Nat):Int):=by omega
  have nVk:nV x.k = .slice 3 0 x.k none:=by rw [hk'];rfl
  have nHk:nH x.k = [some (.row 4 (List.replicate x.k a46))]:=by rw [hk'];rfl
  rw [nVk,nHk]
  (repeat first|simp only [ww]|(apply xa;simp +decide only [go_sem,w4,w3,c1,hd'];rfl;kernel_rfl))
  -- the flip-flops
  refine a1c (σ:=Nat) kp27_2 (fun i=>[(1,.ptr 0 0 0),(2,.ptr 1 0 0),(3,.ptr 2 0 0),(5,.int .i64 x.k),(6,.int .i64 0),(7,.int .i64 i)])
   (fun i=>match i with|_=>[xh x,rh,some (.row 4 [[.slice 3 0 (x.k + 0) none,.nilslice,.nilslice,.nilslice]]),some (.row 4 (List.replicate x.k a46 ++ []))] ++ []) (fun i=>0 - i) (fun i=>i ≤ 0) 0 ?_ (Nat.zero_le _) ?_ ?_
  ·(simp +decide only [go_sem,a02,a00]<;>rfl)
  ·intro i hi
   obtain rfl:i = 0:=by omega
   ((simp +decide only [go_sem,a02,a00]<;>rfl))
  ·intro i hi
   obtain rfl:i = 0:=by omega
   (repeat first|simp only [ww]|(apply xa;simp +decide only [go_sem,hm];rfl;kernel_rfl))
   -- the gates
   refine a1c (σ:=Nat) kp27_4 (fun i=>[(1,.ptr 0 0 0),(2,.ptr 1 0 0),(3,.ptr 2 0 0),(5,.int .i64 x.k),(6,.int .i64 0),(8,.int .i64 i)])
    (fun i=>[xh x,rh,some (.row 4 [[.slice 3 0 (x.k + 0 + i) none,.nilslice,.nilslice,.nilslice]]),some (.row 4 (List.replicate x.k a46 ++ [] ++ (gN x.bus x.base (x.gates.take i)).map Nd.enc))] ++ []) (fun i=>x.gs.length - i) (fun i=>i ≤ x.gs.length) 0 ?_ (Nat.zero_le _) ?_ ?_
   ·(simp +decide only [go_sem,a02,a00,hm,List.take_zero,c7l,List.append_assoc]<;>rfl)
   ·intro i _
    (simp +decide only [go_sem,a02,a00,hm,a08,a0h,List.append_assoc]<;>rfl)
   ·intro i hi
    have hgl:x.gs.length = min 8 x.gates.length:=by unfold CX.gs;rw [List.length_take]
    by_cases hlt:i < x.gs.length
    ·obtain ⟨g,hg⟩:∃ g,x.gates[i]? = some g:=⟨_,z9e (by omega)⟩
     have c1:(i:Int) < x.gates.length:=by omega
     have c1':i < x.gates.length:=by omega
     have c2:(i:Int) < 8:=by omega
     have hw:=wI1 (n:=i) (by omega)
     have hgok:g.ok:=x5 g (List.mem_of_getElem? hg)
     have hgn:(gN x.bus x.base (x.gates.take i)).length = i:=by rw [a4r,List.length_take];omega
     have hs:=b6f x.bus g (x.gates.take i) x.base
     rw [← a15 hg] at hs
     have hcall:=c3v (d:=true) x g hgok (gN x.bus x.base (x.gates.take i)) x.k (x.k + 0 + i) kp (by rw [hgn]) (by omega) (xh x) rh (some (.row 4 [[.slice 3 0 (x.k + 0 + i) none,.nilslice,.nilslice,.nilslice]]))
     rw [show List.replicate x.k 0 ++ List.replicate 0 14 ++ (gN x.bus x.base (x.gates.take i)).map Nd.kind = x.base ++ (gN x.bus x.base (x.gates.take i)).map Nd.kind by unfold CX.base;rw [hd]] at hcall
     generalize a0o x.bus g (x.base ++ (gN x.bus x.base (x.gates.take i)).map Nd.kind) = nd at hcall hs
     simp +decide only [go_sem,hm,List.append_assoc] at hcall
     have hrm:x.k + i + 1 ≤ 1000000000:=by omega
     have hlen:decide (x.k + i = x.k + (i)) = true:=decide_eq_true (by omega)
     (repeat first|simp only [ww]|(apply xa;simp +decide only [go_sem,hm,c1,c1',c2,hw,hg,hcall,hrm,hlen,List.append_assoc,hgn];rfl;kernel_rfl))
     refine a1m (i + 1) ?_ (by omega) (by omega)
     rw [hs]
     (simp +decide only [go_sem,a02,a00,hm,a08,a0h,List.append_assoc]<;>rfl)
    have hie:i = x.gs.length:=by omega
    subst hie
    rw [x.gs_take]
    have hgn:(gN x.bus x.base x.gs).length = x.gs.length:=a4r _ _ _
    have hnn:x.n = x.k + 0 + x.gs.length:=by unfold CX.n;rw [hd]
    rw [← hnn]
    generalize hG:gN x.bus x.base x.gs = gg at hgn
    have hnp:0 < x.n:=by omega
    have hnl:x.n ≤ 14:=by omega
    have hn0:¬ (x.n:Int) = 0:=by omega
    have hstop:¬ ((x.gs.length:Int) < x.gates.length ∧ (x.gs.length:Int) < 8):=by omega
    -- the guard of the loop's end is decided in either case
    have hfin:∀ F,F = [(1,AV.ptr 0 0 0),(2,.ptr 1 0 0),(3,.ptr 2 0 0),(5,.int .i64 x.k),(6,.int .i64 0),(8,.int .i64 x.gs.length)] → True:=fun _ _=>trivial
    by_cases g1:x.gs.length < x.gates.length
    ·have c1:(x.gs.length:Int) < x.gates.length:=by omega
     have c2:¬ (x.gs.length:Int) < 8:=by omega
     (repeat first|simp only [ww]|(apply xa;simp +decide only [go_sem,c1,c2,hm];rfl;kernel_rfl))
     -- the flip-flops' data
     refine a1c (σ:=Nat) kp27_6 (fun i=>[(1,.ptr 0 0 0),(2,.ptr 1 0 0),(3,.ptr 2 0 0),(5,.int .i64 x.k),(6,.int .i64 0),(9,.int .i64 x.n),(10,.int .i64 i)])
      (fun i=>match i with|_=>[xh x,rh,some (.row 4 [[.slice 3 0 x.n none,.nilslice,.nilslice,.nilslice]]),some (.row 4 (List.replicate x.k a46 ++ [] ++ gg.map Nd.enc))] ++ []) (fun i=>0 - i) (fun i=>i ≤ 0) 0 ?_ (Nat.zero_le _) ?_ ?_
     ·(simp +decide only [go_sem,a02,a00,hm,a08,a0h,List.append_assoc]<;>rfl)
     ·intro i hi
      obtain rfl:i = 0:=by omega
      (simp +decide only [go_sem,a02,a00,hm,a08,a0h,List.append_assoc]<;>rfl)
     ·intro i hi
      obtain rfl:i = 0:=by omega
      (repeat first|simp only [ww]|(apply xa;simp +decide only [go_sem,hm];rfl;kernel_rfl))
      -- the names
      refine a1c (σ:=Nat) kp27_8 (fun i=>[(1,.ptr 0 0 0),(2,.ptr 1 0 0),(3,.ptr 2 0 0),(9,.int .i64 x.n),(11,.int .i64 i)])
       (fun i=>[xh x,rh,some (.row 4 [[.slice 3 0 x.n none,slN 4 i,.nilslice,.nilslice]]),some (.row 4 (List.replicate x.k a46 ++ [] ++ gg.map Nd.enc))] ++ [] ++ nmH i) (fun i=>x.n - i) (fun i=>i ≤ x.n) 0 ?_ (Nat.zero_le _) ?_ ?_
      ·(simp +decide only [go_sem,a02,a00,hm,a6c,b78,a08,a0h,List.append_assoc]<;>rfl)
      ·intro i _
       cases i with
       | zero=>(simp +decide only [go_sem,a02,a00,hm,a6c,b78,a08,a0h,List.append_assoc]<;>rfl)
       | succ i=>(simp +decide only [go_sem,a02,a00,hm,a3s,b1o,a08,a0h,a13,a1g,List.append_assoc]<;>rfl)
      ·intro i hi
       by_cases hlt:i < x.n
       ·have c1:(i:Int) < x.n:=by omega
        have hw:=wI1 (n:=i) (by omega)
        have hcall:=fun H=>a6r (d:=true) H i (by omega)
        have hrm:i + 1 ≤ 1000000000:=by omega
        cases i with
        | zero=>
         (repeat first|simp only [ww]|(apply xa;simp +decide only [go_sem,hm,c1,hw,hcall,a6c,b78];rfl;kernel_rfl))
         refine a1m 1 ?_ (by omega) (by omega)
         (simp +decide only [go_sem,a02,a00,hm,a3s,b1o,a08,a0h,nm1,List.append_assoc]<;>rfl)
        | succ i=>
         have hrm:i + 1 + 1 ≤ 1000000000:=by omega
         (repeat first|simp only [ww]|(apply xa;simp +decide only [go_sem,hm,c1,hw,hcall,a3s,b1o,hrm,List.length_range];rfl;kernel_rfl))
         refine a1m (i + 1 + 1) ?_ (by omega) (by omega)
         (simp +decide only [go_sem,a02,a00,hm,a3s,b1o,a08,a0h,a13,a1g,b0n,List.append_assoc]<;>rfl)
       have hie:i = x.n:=by omega
       subst hie
       have c1:¬ (x.n:Int) < x.n:=by omega
       obtain ⟨n',hn'⟩:∃ n',x.n = n' + 1:=⟨x.n - 1,by omega⟩
       have e1:slN 4 x.n = .slice 4 0 x.n none:=by rw [hn'];rfl
       have e2:nmH x.n = [some (.row 1 ((List.range x.n).map nmR))]:=by rw [hn'];rfl
       rw [e1,e2]
       (repeat first|simp only [ww]|(apply xa;simp +decide only [go_sem,hm,c1];rfl;kernel_rfl))
       -- the outputs
       refine a1c (σ:=Nat) kp27_10 (fun i=>[(1,.ptr 0 0 0),(2,.ptr 1 0 0),(3,.ptr 2 0 0),(9,.int .i64 x.n),(12,.int .i64 i)])
        (fun i=>[xh x,rh,some (.row 4 [[.slice 3 0 x.n none,.slice 4 0 x.n none,.nilslice,slN 5 i]]),some (.row 4 (List.replicate x.k a46 ++ [] ++ gg.map Nd.enc))] ++ [] ++ [some (.row 1 ((List.range x.n).map nmR))] ++ otH x i) (fun i=>3 - i) (fun i=>i ≤ 3 ∧ i ≤ x.outs.length) 0 ?_ ⟨by omega,by omega⟩ ?_ ?_
       ·(simp +decide only [go_sem,a02,a00,hm,a6c,b1l,a08,a0h,a13,a1g,List.append_assoc]<;>rfl)
       ·intro i _
        cases i with
        | zero=>(simp +decide only [go_sem,a02,a00,hm,a6c,b1l,a08,a0h,a13,a1g,List.append_assoc]<;>rfl)
        | succ i=>(simp +decide only [go_sem,a02,a00,hm,a3s,a7l,a08,a0h,a13,a1g,a4y,a7i,List.append_assoc]<;>rfl)
       ·intro i hi
        by_cases hlt:i < 3 ∧ i < x.outs.length
        ·obtain ⟨o,ho⟩:∃ o,x.outs[i]? = some o:=⟨_,z9e hlt.2⟩
         have hol:=x6 o (List.mem_of_getElem? ho)
         have wo:=wI (n:=o) (by omega)
         have c1:(i:Int) < x.outs.length:=by omega
         have c1':i < x.outs.length:=by omega
         have c2:(i:Int) < 3:=by omega
         have hw:=wI1 (n:=i) (by omega)
         have ht:=a15 ho
         have htl:(x.outs.take i).length = i:=by rw [List.length_take];omega
         cases i with
         | zero=>
          (repeat first|simp only [ww]|(apply xa;simp +decide only [go_sem,hm,c1,c1',c2,hw,ho,wo,hn0,a6c,b1l];rfl;kernel_rfl))
          refine a1m 1 ?_ (by omega) ⟨by omega,by omega⟩
          (simp +decide only [go_sem,a02,a00,hm,a3s,a7l,a08,a0h,a13,a1g,ht,List.take_zero,List.append_assoc]<;>rfl)
         | succ i=>
          have hrm:i + 1 + 1 ≤ 1000000000:=by omega
          (repeat first|simp only [ww]|(apply xa;simp +decide only [go_sem,hm,c1,c1',c2,hw,ho,wo,hn0,a3s,a7l,hrm,htl];rfl;kernel_rfl))
          refine a1m (i + 1 + 1) ?_ (by omega) ⟨by omega,by omega⟩
          (simp +decide only [go_sem,a02,a00,hm,a3s,a7l,a08,a0h,a13,a1g,a4y,a7i,ht,List.append_assoc]<;>rfl)
        have hio:x.outs.take i = x.outs.take 3:=by
         by_cases h3:i = 3
         ·rw [h3]
         ·rw [List.take_of_length_le (by omega),List.take_of_length_le (by omega)]
        have hil:(x.outs.take i).length = i:=by rw [List.length_take];omega
        have hwn:IntKind.i64.wrap ((x.n:Int) - 1) = ((x.n - 1:Nat):Int):=by rw [w64 (by omega) (by omega)];omega
        have hres:x.cir = ⟨some none,List.replicate x.k a9d ++ [] ++ gg,some none,(List.range x.n).map a2y,some none,(x.outs.take i).map (·% x.n) ++ [x.n - 1]⟩:=by
         rw [hio,← hG];simp [CX.cir,CX.nodes,CX.dn,CX.names,CX.outN,hd]
        rw [hres]
        have hle1:x.n ≤ x.k + gg.length:=by omega
        have hle2:x.k + gg.length ≤ x.n:=by omega
        by_cases g1:i < x.outs.length
        ·have c1:(i:Int) < x.outs.length:=by omega
         have c2:¬ (i:Int) < 3:=by omega
         have hrm:i + 1 ≤ 1000000000:=by omega
         cases i with
         | zero=>omega
         | succ i=>
          have hrm:i + 1 + 1 ≤ 1000000000:=by omega
          (repeat first|simp only [ww]|(apply xa;simp +decide only [go_sem,hm,c1,c2,a3s,a7l,hrm,hwn,hil];rfl;kernel_rfl))
          (apply fqb;simp +decide only [go_sem,hm,a2s,a4b,a4a,a49,a1a,List.map_map,hil,a9d,a3r,a48,Cir.enc,a22,hle1,hle2,List.length_range,Nat.le_refl,a47]<;>rfl)
        ·have c1:¬ (i:Int) < x.outs.length:=by omega
         cases i with
         | zero=>
          (repeat first|simp only [ww]|(apply xa;simp +decide only [go_sem,hm,c1,a6c,b1l,hwn,hil];rfl;kernel_rfl))
          (apply fqb;simp +decide only [go_sem,hm,a2s,a4b,a4a,a49,a1a,List.map_map,hil,a9d,a3r,a48,Cir.enc,a22,hle1,hle2,List.length_range,Nat.le_refl,a47,List.take_zero]<;>rfl)
         | succ i=>
          have hrm:i + 1 + 1 ≤ 1000000000:=by omega
          (repeat first|simp only [ww]|(apply xa;simp +decide only [go_sem,hm,c1,a3s,a7l,hrm,hwn,hil];rfl;kernel_rfl))
          (apply fqb;simp +decide only [go_sem,hm,a2s,a4b,a4a,a49,a1a,List.map_map,hil,a9d,a3r,a48,Cir.enc,a22,hle1,hle2,List.length_range,Nat.le_refl,a47]<;>rfl)
    ·have c1:¬ (x.gs.length:Int) < x.gates.length:=by omega
     (repeat first|simp only [ww]|(apply xa;simp +decide only [go_sem,c1,hm];rfl;kernel_rfl))
     -- the flip-flops' data
     refine a1c (σ:=Nat) kp27_6 (fun i=>[(1,.ptr 0 0 0),(2,.ptr 1 0 0),(3,.ptr 2 0 0),(5,.int .i64 x.k),(6,.int .i64 0),(9,.int .i64 x.n),(10,.int .i64 i)])
      (fun i=>match i with|_=>[xh x,rh,some (.row 4 [[.slice 3 0 x.n none,.nilslice,.nilslice,.nilslice]]),some (.row 4 (List.replicate x.k a46 ++ [] ++ gg.map Nd.enc))] ++ []) (fun i=>0 - i) (fun i=>i ≤ 0) 0 ?_ (Nat.zero_le _) ?_ ?_
     ·(simp +decide only [go_sem,a02,a00,hm,a08,a0h,List.append_assoc]<;>rfl)
     ·intro i hi
      obtain rfl:i = 0:=by omega
      (simp +decide only [go_sem,a02,a00,hm,a08,a0h,List.append_assoc]<;>rfl)
     ·intro i hi
      obtain rfl:i = 0:=by omega
      (repeat first|simp only [ww]|(apply xa;simp +decide only [go_sem,hm];rfl;kernel_rfl))
      -- the names
      refine a1c (σ:=Nat) kp27_8 (fun i=>[(1,.ptr 0 0 0),(2,.ptr 1 0 0),(3,.ptr 2 0 0),(9,.int .i64 x.n),(11,.int .i64 i)])
       (fun i=>[xh x,rh,some (.row 4 [[.slice 3 0 x.n none,slN 4 i,.nilslice,.nilslice]]),some (.row 4 (List.replicate x.k a46 ++ [] ++ gg.map Nd.enc))] ++ [] ++ nmH i) (fun i=>x.n - i) (fun i=>i ≤ x.n) 0 ?_ (Nat.zero_le _) ?_ ?_
      ·(simp +decide only [go_sem,a02,a00,hm,a6c,b78,a08,a0h,List.append_assoc]<;>rfl)
      ·intro i _
       cases i with
       | zero=>(simp +decide only [go_sem,a02,a00,hm,a6c,b78,a08,a0h,List.append_assoc]<;>rfl)
       | succ i=>(simp +decide only [go_sem,a02,a00,hm,a3s,b1o,a08,a0h,a13,a1g,List.append_assoc]<;>rfl)
      ·intro i hi
       by_cases hlt:i < x.n
       ·have c1:(i:Int) < x.n:=by omega
        have hw:=wI1 (n:=i) (by omega)
        have hcall:=fun H=>a6r (d:=true) H i (by omega)
        have hrm:i + 1 ≤ 1000000000:=by omega
        cases i with
        | zero=>
         (repeat first|simp only [ww]|(apply xa;simp +decide only [go_sem,hm,c1,hw,hcall,a6c,b78];rfl;kernel_rfl))
         refine a1m 1 ?_ (by omega) (by omega)
         (simp +decide only [go_sem,a02,a00,hm,a3s,b1o,a08,a0h,nm1,List.append_assoc]<;>rfl)
        | succ i=>
         have hrm:i + 1 + 1 ≤ 1000000000:=by omega
         (repeat first|simp only [ww]|(apply xa;simp +decide only [go_sem,hm,c1,hw,hcall,a3s,b1o,hrm,List.length_range];rfl;kernel_rfl))
         refine a1m (i + 1 + 1) ?_ (by omega) (by omega)
         (simp +decide only [go_sem,a02,a00,hm,a3s,b1o,a08,a0h,a13,a1g,b0n,List.append_assoc]<;>rfl)
       have hie:i = x.n:=by omega
       subst hie
       have c1:¬ (x.n:Int) < x.n:=by omega
       obtain ⟨n',hn'⟩:∃ n',x.n = n' + 1:=⟨x.n - 1,by omega⟩
       have e1:slN 4 x.n = .slice 4 0 x.n none:=by rw [hn'];rfl
       have e2:nmH x.n = [some (.row 1 ((List.range x.n).map nmR))]:=by rw [hn'];rfl
       rw [e1,e2]
       (repeat first|simp only [ww]|(apply xa;simp +decide only [go_sem,hm,c1];rfl;kernel_rfl))
       -- the outputs
       refine a1c (σ:=Nat) kp27_10 (fun i=>[(1,.ptr 0 0 0),(2,.ptr 1 0 0),(3,.ptr 2 0 0),(9,.int .i64 x.n),(12,.int .i64 i)])
        (fun i=>[xh x,rh,some (.row 4 [[.slice 3 0 x.n none,.slice 4 0 x.n none,.nilslice,slN 5 i]]),some (.row 4 (List.replicate x.k a46 ++ [] ++ gg.map Nd.enc))] ++ [] ++ [some (.row 1 ((List.range x.n).map nmR))] ++ otH x i) (fun i=>3 - i) (fun i=>i ≤ 3 ∧ i ≤ x.outs.length) 0 ?_ ⟨by omega,by omega⟩ ?_ ?_
       ·(simp +decide only [go_sem,a02,a00,hm,a6c,b1l,a08,a0h,a13,a1g,List.append_assoc]<;>rfl)
       ·intro i _
        cases i with
        | zero=>(simp +decide only [go_sem,a02,a00,hm,a6c,b1l,a08,a0h,a13,a1g,List.append_assoc]<;>rfl)
        | succ i=>(simp +decide only [go_sem,a02,a00,hm,a3s,a7l,a08,a0h,a13,a1g,a4y,a7i,List.append_assoc]<;>rfl)
       ·intro i hi
        by_cases hlt:i < 3 ∧ i < x.outs.length
        ·obtain ⟨o,ho⟩:∃ o,x.outs[i]? = some o:=⟨_,z9e hlt.2⟩
         have hol:=x6 o (List.mem_of_getElem? ho)
         have wo:=wI (n:=o) (by omega)
         have c1:(i:Int) < x.outs.length:=by omega
         have c1':i < x.outs.length:=by omega
         have c2:(i:Int) < 3:=by omega
         have hw:=wI1 (n:=i) (by omega)
         have ht:=a15 ho
         have htl:(x.outs.take i).length = i:=by rw [List.length_take];omega
         cases i with
         | zero=>
          (repeat first|simp only [ww]|(apply xa;simp +decide only [go_sem,hm,c1,c1',c2,hw,ho,wo,hn0,a6c,b1l];rfl;kernel_rfl))
          refine a1m 1 ?_ (by omega) ⟨by omega,by omega⟩
          (simp +decide only [go_sem,a02,a00,hm,a3s,a7l,a08,a0h,a13,a1g,ht,List.take_zero,List.append_assoc]<;>rfl)
         | succ i=>
          have hrm:i + 1 + 1 ≤ 1000000000:=by omega
          (repeat first|simp only [ww]|(apply xa;simp +decide only [go_sem,hm,c1,c1',c2,hw,ho,wo,hn0,a3s,a7l,hrm,htl];rfl;kernel_rfl))
          refine a1m (i + 1 + 1) ?_ (by omega) ⟨by omega,by omega⟩
          (simp +decide only [go_sem,a02,a00,hm,a3s,a7l,a08,a0h,a13,a1g,a4y,a7i,ht,List.append_assoc]<;>rfl)
        have hio:x.outs.take i = x.outs.take 3:=by
         by_cases h3:i = 3
         ·rw [h3]
         ·rw [List.take_of_length_le (by omega),List.take_of_length_le (by omega)]
        have hil:(x.outs.take i).length = i:=by rw [List.length_take];omega
        have hwn:IntKind.i64.wrap ((x.n:Int) - 1) = ((x.n - 1:Nat):Int):=by rw [w64 (by omega) (by omega)];omega
        have hres:x.cir = ⟨some none,List.replicate x.k a9d ++ [] ++ gg,some none,(List.range x.n).map a2y,some none,(x.outs.take i).map (·% x.n) ++ [x.n - 1]⟩:=by
         rw [hio,← hG];simp [CX.cir,CX.nodes,CX.dn,CX.names,CX.outN,hd]
        rw [hres]
        have hle1:x.n ≤ x.k + gg.length:=by omega
        have hle2:x.k + gg.length ≤ x.n:=by omega
        by_cases g1:i < x.outs.length
        ·have c1:(i:Int) < x.outs.length:=by omega
         have c2:¬ (i:Int) < 3:=by omega
         have hrm:i + 1 ≤ 1000000000:=by omega
         cases i with
         | zero=>omega
         | succ i=>
          have hrm:i + 1 + 1 ≤ 1000000000:=by omega
          (repeat first|simp only [ww]|(apply xa;simp +decide only [go_sem,hm,c1,c2,a3s,a7l,hrm,hwn,hil];rfl;kernel_rfl))
          (apply fqb;simp +decide only [go_sem,hm,a2s,a4b,a4a,a49,a1a,List.map_map,hil,a9d,a3r,a48,Cir.enc,a22,hle1,hle2,List.length_range,Nat.le_refl,a47]<;>rfl)
        ·have c1:¬ (i:Int) < x.outs.length:=by omega
         cases i with
         | zero=>
          (repeat first|simp only [ww]|(apply xa;simp +decide only [go_sem,hm,c1,a6c,b1l,hwn,hil];rfl;kernel_rfl))
          (apply fqb;simp +decide only [go_sem,hm,a2s,a4b,a4a,a49,a1a,List.map_map,hil,a9d,a3r,a48,Cir.enc,a22,hle1,hle2,List.length_range,Nat.le_refl,a47,List.take_zero]<;>rfl)
         | succ i=>
          have hrm:i + 1 + 1 ≤ 1000000000:=by omega
          (repeat first|simp only [ww]|(apply xa;simp +decide only [go_sem,hm,c1,a3s,a7l,hrm,hwn,hil];rfl;kernel_rfl))
          (apply fqb;simp +decide only [go_sem,hm,a2s,a4b,a4a,a49,a1a,List.map_map,hil,a9d,a3r,a48,Cir.enc,a22,hle1,hle2,List.length_range,Nat.le_refl,a47]<;>rfl)
theorem e18 (x:CX) (hx:x.ok) (hm:x.mem = false) (hd:x.d = 1) :
 sem L.env Mf 27 [.agg x.enc] [] = some (.agg x.cir.enc,[]):=by
 obtain ⟨x1,x2,x3,x4,x5,x6⟩:=hx
 have hk1:x.inn % 4 + 1 = x.k:=rfl
 have hd':x.dffs % 3 = 1:=hd
 have kk:x.k ≤ 4:=by unfold CX.k;omega
 have kp:0 < x.k:=by unfold CX.k;omega
 have gl:x.gs.length ≤ 8:=by unfold CX.gs;rw [List.length_take];omega
 have w4:=wI (n:=x.inn % 4) (by omega)
 have w3:=wI (n:=x.dffs % 3) (by omega)
 obtain ⟨k',hk'⟩:∃ k',x.k = k' + 1:=⟨x.k - 1,by omega⟩
 (refine sv Tryz.f27 ?_;simp only [Tryz.f27,gS])
 (repeat first|simp only [ww]|(apply xa;simp +decide only [go_sem];rfl;kernel_rfl))
 -- the inputs
 refine a1c (σ:=Nat) kp27_0 (fun i=>[(1,.ptr 0 0 0),(2,.ptr 1 0 0),(3,.ptr 2 0 0),(4,.int .i64 i)])
  (fun i=>[xh x,rh,some (.row 4 [[nV i,.nilslice,.nilslice,.nilslice]])] ++ nH i) (fun i=>x.k - i) (fun i=>i ≤ x.k) 0 ?_ (Nat.zero_le _) ?_ ?_
 ·(simp +decide only [go_sem,a02,a00,nV0,nH0]<;>rfl)
 ·intro i _
  cases i with
  | zero=>((simp +decide only [go_sem,a02,a00,nV0,nH0]<;>rfl))
  | succ i=>((simp +decide only [go_sem,a02,a00,nVs,nHs]<;>rfl))
 ·intro i hi
  by_cases hlt:i < x.k
  ·have c1:(i:Int) ≤ ((x.inn % 4:Nat):Int):=by omega
   have hw:=wI1 (n:=i) (by omega)
   cases i with
   | zero=>
    (repeat first|simp only [ww]|(apply xa;simp +decide only [go_sem,w4,c1,hw,nV0,nH0];rfl;kernel_rfl))
    refine a1m 1 ?_ (by omega) (by omega)
    ((simp +decide only [go_sem,a02,a00,nVs,nHs]<;>rfl))
   | succ i=>
    have hrm:i + 1 + 1 ≤ 1000000000:=by omega
    (repeat first|simp only [ww]|(apply xa;simp +decide only [go_sem,w4,c1,hw,nVs,nHs,hrm,a53];rfl;kernel_rfl))
    refine a1m (i + 1 + 1) ?_ (by omega) (by omega)
    ((simp +decide only [go_sem,a02,a00,nVs,nHs,a53]<;>rfl))
  have hik:i = x.k:=by omega
  subst hik
  have c1:¬ ((x.k:Nat):Int) ≤ ((x.inn % 4:Nat):Int):=by omega
  have nVk:nV x.k = .slice 3 0 x.k none:=by rw [hk'];rfl
  have nHk:nH x.k = [some (.row 4 (List.replicate x.k a46))]:=by rw [hk'];rfl
  rw [nVk,nHk]
  (repeat first|simp only [ww]|(apply xa;simp +decide only [go_sem,w4,w3,c1,hd'];rfl;kernel_rfl))
  -- the flip-flops
  refine a1c (σ:=Nat) kp27_2 (fun i=>[(1,.ptr 0 0 0),(2,.ptr 1 0 0),(3,.ptr 2 0 0),(5,.int .i64 x.k),(6,.int .i64 1),(7,.int .i64 i)])
   (fun i=>match i with|0=>[xh x,rh,some (.row 4 [[.slice 3 0 (x.k + 0) none,.nilslice,.nilslice,.nilslice]]),some (.row 4 (List.replicate x.k a46 ++ []))] ++ []|_=>[xh x,rh,some (.row 4 [[.slice 3 0 (x.k + 1) none,.nilslice,.nilslice,.nilslice]]),some (.row 4 (List.replicate x.k a46 ++ [dR 4]))] ++ [one 0]) (fun i=>1 - i) (fun i=>i ≤ 1) 0 ?_ (Nat.zero_le _) ?_ ?_
  ·(simp +decide only [go_sem,a02,a00]<;>rfl)
  ·intro i hi
   by_cases hj0:i = 0
   ·subst hj0
    ((simp +decide only [go_sem,a02,a00]<;>rfl))
   obtain rfl:i = 1:=by omega
   ((simp +decide only [go_sem,a02,a00]<;>rfl))
  ·intro i hi
   by_cases hj0:i = 0
   ·subst hj0
    have hrm:x.k + 0 + 1 ≤ 1000000000:=by omega
    have hw:=wI1 (n:=0) (by omega)
    (repeat first|simp only [ww]|(apply xa;simp +decide only [go_sem,hrm,a53,hw];rfl;kernel_rfl))
    refine a1m 1 ?_ (by omega) (by omega)
    ((simp +decide only [go_sem,a02,a00,List.append_assoc]<;>rfl))
   obtain rfl:i = 1:=by omega
   (repeat first|simp only [ww]|(apply xa;simp +decide only [go_sem,hm];rfl;kernel_rfl))
   -- the gates
   refine a1c (σ:=Nat) kp27_4 (fun i=>[(1,.ptr 0 0 0),(2,.ptr 1 0 0),(3,.ptr 2 0 0),(5,.int .i64 x.k),(6,.int .i64 1),(8,.int .i64 i)])
    (fun i=>[xh x,rh,some (.row 4 [[.slice 3 0 (x.k + 1 + i) none,.nilslice,.nilslice,.nilslice]]),some (.row 4 (List.replicate x.k a46 ++ [dR 4] ++ (gN x.bus x.base (x.gates.take i)).map Nd.enc))] ++ [one 0]) (fun i=>x.gs.length - i) (fun i=>i ≤ x.gs.length) 0 ?_ (Nat.zero_le _) ?_ ?_
   ·(simp +decide only [go_sem,a02,a00,hm,List.take_zero,c7l,List.append_assoc]<;>rfl)
   ·intro i _
    (simp +decide only [go_sem,a02,a00,hm,a08,a0h,List.append_assoc]<;>rfl)
   ·intro i hi
    have hgl:x.gs.length = min 8 x.gates.length:=by unfold CX.gs;rw [List.length_take]
    by_cases hlt:i < x.gs.length
    ·obtain ⟨g,hg⟩:∃ g,x.gates[i]? = some g:=⟨_,z9e (by omega)⟩
     have c1:(i:Int) < x.gates.length:=by omega
     have c1':i < x.gates.length:=by omega
     have c2:(i:Int) < 8:=by omega
     have hw:=wI1 (n:=i) (by omega)
     have hgok:g.ok:=x5 g (List.mem_of_getElem? hg)
     have hgn:(gN x.bus x.base (x.gates.take i)).length = i:=by rw [a4r,List.length_take];omega
     have hs:=b6f x.bus g (x.gates.take i) x.base
     rw [← a15 hg] at hs
     have hcall:=c3u (d:=true) x g hgok (gN x.bus x.base (x.gates.take i)) x.k (x.k + 1 + i) kp (by rw [hgn]) (by omega) (xh x) rh (some (.row 4 [[.slice 3 0 (x.k + 1 + i) none,.nilslice,.nilslice,.nilslice]]))
     rw [show List.replicate x.k 0 ++ List.replicate 1 14 ++ (gN x.bus x.base (x.gates.take i)).map Nd.kind = x.base ++ (gN x.bus x.base (x.gates.take i)).map Nd.kind by unfold CX.base;rw [hd]] at hcall
     generalize a0o x.bus g (x.base ++ (gN x.bus x.base (x.gates.take i)).map Nd.kind) = nd at hcall hs
     simp +decide only [go_sem,hm,List.append_assoc] at hcall
     have hrm:x.k + 1 + i + 1 ≤ 1000000000:=by omega
     have hlen:decide (x.k + 1 + i = x.k + (i + 1)) = true:=decide_eq_true (by omega)
     (repeat first|simp only [ww]|(apply xa;simp +decide only [go_sem,hm,c1,c1',c2,hw,hg,hcall,hrm,hlen,List.append_assoc,hgn];rfl;kernel_rfl))
     refine a1m (i + 1) ?_ (by omega) (by omega)
     rw [hs]
     (simp +decide only [go_sem,a02,a00,hm,a08,a0h,List.append_assoc]<;>rfl)
    have hie:i = x.gs.length:=by omega
    subst hie
    rw [x.gs_take]
    have hgn:(gN x.bus x.base x.gs).length = x.gs.length:=a4r _ _ _
    have hnn:x.n = x.k + 1 + x.gs.length:=by unfold CX.n;rw [hd]
    rw [← hnn]
    generalize hG:gN x.bus x.base x.gs = gg at hgn
    have hnp:0 < x.n:=by omega
    have hnl:x.n ≤ 14:=by omega
    have hn0:¬ (x.n:Int) = 0:=by omega
    have hstop:¬ ((x.gs.length:Int) < x.gates.length ∧ (x.gs.length:Int) < 8):=by omega
    -- the guard of the loop's end is decided in either case
    have hfin:∀ F,F = [(1,AV.ptr 0 0 0),(2,.ptr 1 0 0),(3,.ptr 2 0 0),(5,.int .i64 x.k),(6,.int .i64 1),(8,.int .i64 x.gs.length)] → True:=fun _ _=>trivial
    by_cases g1:x.gs.length < x.gates.length
    ·have c1:(x.gs.length:Int) < x.gates.length:=by omega
     have c2:¬ (x.gs.length:Int) < 8:=by omega
     (repeat first|simp only [ww]|(apply xa;simp +decide only [go_sem,c1,c2,hm];rfl;kernel_rfl))
     -- the flip-flops' data
     refine a1c (σ:=Nat) kp27_6 (fun i=>[(1,.ptr 0 0 0),(2,.ptr 1 0 0),(3,.ptr 2 0 0),(5,.int .i64 x.k),(6,.int .i64 1),(9,.int .i64 x.n),(10,.int .i64 i)])
      (fun i=>match i with|0=>[xh x,rh,some (.row 4 [[.slice 3 0 x.n none,.nilslice,.nilslice,.nilslice]]),some (.row 4 (List.replicate x.k a46 ++ [dR 4] ++ gg.map Nd.enc))] ++ [one 0]|_=>[xh x,rh,some (.row 4 [[.slice 3 0 x.n none,.nilslice,.nilslice,.nilslice]]),some (.row 4 (List.replicate x.k a46 ++ [dR 4] ++ gg.map Nd.enc))] ++ [one (x.d0 % x.n)]) (fun i=>1 - i) (fun i=>i ≤ 1) 0 ?_ (Nat.zero_le _) ?_ ?_
     ·(simp +decide only [go_sem,a02,a00,hm,a08,a0h,List.append_assoc]<;>rfl)
     ·intro i hi
      by_cases hj0:i = 0
      ·subst hj0
       (simp +decide only [go_sem,a02,a00,hm,a08,a0h,List.append_assoc]<;>rfl)
      obtain rfl:i = 1:=by omega
      (simp +decide only [go_sem,a02,a00,hm,a08,a0h,List.append_assoc]<;>rfl)
     ·intro i hi
      by_cases hj0:i = 0
      ·subst hj0
       have hw:=wI1 (n:=0) (by omega)
       have hwa:IntKind.i64.wrap ((x.k:Int) + (((0:Nat)):Int)) = ((x.k + 0:Nat):Int):=by rw [w64 (by omega) (by omega)];omega
       have hwa':IntKind.i64.wrap ((x.k:Int) + 0) = ((x.k + 0:Nat):Int):=by rw [w64 (by omega) (by omega)];omega
       have wd:=wI (n:=x.d0) (by omega)
       have hin:x.k + 0 < x.n:=by omega
       have hin':x.k < x.n:=by omega
       (repeat first|simp only [ww]|(apply xa;simp +decide only [go_sem,hm,hw,hwa,hwa',wd,hn0,hin,hin',b0q,a8n,b0f,a8e,List.append_assoc];rfl;kernel_rfl))
       refine a1m 1 ?_ (by omega) (by omega)
       (simp +decide only [go_sem,a02,a00,hm,a08,a0h,List.append_assoc]<;>rfl)
      obtain rfl:i = 1:=by omega
      (repeat first|simp only [ww]|(apply xa;simp +decide only [go_sem,hm];rfl;kernel_rfl))
      -- the names
      refine a1c (σ:=Nat) kp27_8 (fun i=>[(1,.ptr 0 0 0),(2,.ptr 1 0 0),(3,.ptr 2 0 0),(9,.int .i64 x.n),(11,.int .i64 i)])
       (fun i=>[xh x,rh,some (.row 4 [[.slice 3 0 x.n none,slN 5 i,.nilslice,.nilslice]]),some (.row 4 (List.replicate x.k a46 ++ [dR 4] ++ gg.map Nd.enc))] ++ [one (x.d0 % x.n)] ++ nmH i) (fun i=>x.n - i) (fun i=>i ≤ x.n) 0 ?_ (Nat.zero_le _) ?_ ?_
      ·(simp +decide only [go_sem,a02,a00,hm,a6c,b78,a08,a0h,List.append_assoc]<;>rfl)
      ·intro i _
       cases i with
       | zero=>(simp +decide only [go_sem,a02,a00,hm,a6c,b78,a08,a0h,List.append_assoc]<;>rfl)
       | succ i=>(simp +decide only [go_sem,a02,a00,hm,a3s,b1o,a08,a0h,a13,a1g,List.append_assoc]<;>rfl)
      ·intro i hi
       by_cases hlt:i < x.n
       ·have c1:(i:Int) < x.n:=by omega
        have hw:=wI1 (n:=i) (by omega)
        have hcall:=fun H=>a6r (d:=true) H i (by omega)
        have hrm:i + 1 ≤ 1000000000:=by omega
        cases i with
        | zero=>
         (repeat first|simp only [ww]|(apply xa;simp +decide only [go_sem,hm,c1,hw,hcall,a6c,b78];rfl;kernel_rfl))
         refine a1m 1 ?_ (by omega) (by omega)
         (simp +decide only [go_sem,a02,a00,hm,a3s,b1o,a08,a0h,nm1,List.append_assoc]<;>rfl)
        | succ i=>
         have hrm:i + 1 + 1 ≤ 1000000000:=by omega
         (repeat first|simp only [ww]|(apply xa;simp +decide only [go_sem,hm,c1,hw,hcall,a3s,b1o,hrm,List.length_range];rfl;kernel_rfl))
         refine a1m (i + 1 + 1) ?_ (by omega) (by omega)
         (simp +decide only [go_sem,a02,a00,hm,a3s,b1o,a08,a0h,a13,a1g,b0n,List.append_assoc]<;>rfl)
       have hie:i = x.n:=by omega
       subst hie
       have c1:¬ (x.n:Int) < x.n:=by omega
       obtain ⟨n',hn'⟩:∃ n',x.n = n' + 1:=⟨x.n - 1,by omega⟩
       have e1:slN 5 x.n = .slice 5 0 x.n none:=by rw [hn'];rfl
       have e2:nmH x.n = [some (.row 1 ((List.range x.n).map nmR))]:=by rw [hn'];rfl
       rw [e1,e2]
       (repeat first|simp only [ww]|(apply xa;simp +decide only [go_sem,hm,c1];rfl;kernel_rfl))
       -- the outputs
       refine a1c (σ:=Nat) kp27_10 (fun i=>[(1,.ptr 0 0 0),(2,.ptr 1 0 0),(3,.ptr 2 0 0),(9,.int .i64 x.n),(12,.int .i64 i)])
        (fun i=>[xh x,rh,some (.row 4 [[.slice 3 0 x.n none,.slice 5 0 x.n none,.nilslice,slN 6 i]]),some (.row 4 (List.replicate x.k a46 ++ [dR 4] ++ gg.map Nd.enc))] ++ [one (x.d0 % x.n)] ++ [some (.row 1 ((List.range x.n).map nmR))] ++ otH x i) (fun i=>3 - i) (fun i=>i ≤ 3 ∧ i ≤ x.outs.length) 0 ?_ ⟨by omega,by omega⟩ ?_ ?_
       ·(simp +decide only [go_sem,a02,a00,hm,a6c,b1l,a08,a0h,a13,a1g,List.append_assoc]<;>rfl)
       ·intro i _
        cases i with
        | zero=>(simp +decide only [go_sem,a02,a00,hm,a6c,b1l,a08,a0h,a13,a1g,List.append_assoc]<;>rfl)
        | succ i=>(simp +decide only [go_sem,a02,a00,hm,a3s,a7l,a08,a0h,a13,a1g,a4y,a7i,List.append_assoc]<;>rfl)
       ·intro i hi
        by_cases hlt:i < 3 ∧ i < x.outs.length
        ·obtain ⟨o,ho⟩:∃ o,x.outs[i]? = some o:=⟨_,z9e hlt.2⟩
         have hol:=x6 o (List.mem_of_getElem? ho)
         have wo:=wI (n:=o) (by omega)
         have c1:(i:Int) < x.outs.length:=by omega
         have c1':i < x.outs.length:=by omega
         have c2:(i:Int) < 3:=by omega
         have hw:=wI1 (n:=i) (by omega)
         have ht:=a15 ho
         have htl:(x.outs.take i).length = i:=by rw [List.length_take];omega
         cases i with
         | zero=>
          (repeat first|simp only [ww]|(apply xa;simp +decide only [go_sem,hm,c1,c1',c2,hw,ho,wo,hn0,a6c,b1l];rfl;kernel_rfl))
          refine a1m 1 ?_ (by omega) ⟨by omega,by omega⟩
          (simp +decide only [go_sem,a02,a00,hm,a3s,a7l,a08,a0h,a13,a1g,ht,List.take_zero,List.append_assoc]<;>rfl)
         | succ i=>
          have hrm:i + 1 + 1 ≤ 1000000000:=by omega
          (repeat first|simp only [ww]|(apply xa;simp +decide only [go_sem,hm,c1,c1',c2,hw,ho,wo,hn0,a3s,a7l,hrm,htl];rfl;kernel_rfl))
          refine a1m (i + 1 + 1) ?_ (by omega) ⟨by omega,by omega⟩
          (simp +decide only [go_sem,a02,a00,hm,a3s,a7l,a08,a0h,a13,a1g,a4y,a7i,ht,List.append_assoc]<;>rfl)
        have hio:x.outs.take i = x.outs.take 3:=by
         by_cases h3:i = 3
         ·rw [h3]
         ·rw [List.take_of_length_le (by omega),List.take_of_length_le (by omega)]
        have hil:(x.outs.take i).length = i:=by rw [List.length_take];omega
        have hwn:IntKind.i64.wrap ((x.n:Int) - 1) = ((x.n - 1:Nat):Int):=by rw [w64 (by omega) (by omega)];omega
        have hres:x.cir = ⟨some none,List.replicate x.k a9d ++ [a3r (x.d0 % x.n)] ++ gg,some none,(List.range x.n).map a2y,some none,(x.outs.take i).map (·% x.n) ++ [x.n - 1]⟩:=by
         rw [hio,← hG];simp [CX.cir,CX.nodes,CX.dn,CX.names,CX.outN,hd]
        rw [hres]
        have hle1:x.n ≤ x.k + 1 + gg.length:=by omega
        have hle2:x.k + 1 + gg.length ≤ x.n:=by omega
        by_cases g1:i < x.outs.length
        ·have c1:(i:Int) < x.outs.length:=by omega
         have c2:¬ (i:Int) < 3:=by omega
         have hrm:i + 1 ≤ 1000000000:=by omega
         cases i with
         | zero=>omega
         | succ i=>
          have hrm:i + 1 + 1 ≤ 1000000000:=by omega
          (repeat first|simp only [ww]|(apply xa;simp +decide only [go_sem,hm,c1,c2,a3s,a7l,hrm,hwn,hil];rfl;kernel_rfl))
          (apply fqb;simp +decide only [go_sem,hm,a2s,a4b,a4a,a49,a1a,List.map_map,hil,a9d,a3r,a48,Cir.enc,a22,hle1,hle2,List.length_range,Nat.le_refl,a47]<;>rfl)
        ·have c1:¬ (i:Int) < x.outs.length:=by omega
         cases i with
         | zero=>
          (repeat first|simp only [ww]|(apply xa;simp +decide only [go_sem,hm,c1,a6c,b1l,hwn,hil];rfl;kernel_rfl))
          (apply fqb;simp +decide only [go_sem,hm,a2s,a4b,a4a,a49,a1a,List.map_map,hil,a9d,a3r,a48,Cir.enc,a22,hle1,hle2,List.length_range,Nat.le_refl,a47,List.take_zero]<;>rfl)
         | succ i=>
          have hrm:i + 1 + 1 ≤ 1000000000:=by omega
          (repeat first|simp only [ww]|(apply xa;simp +decide only [go_sem,hm,c1,a3s,a7l,hrm,hwn,hil];rfl;kernel_rfl))
          (apply fqb;simp +decide only [go_sem,hm,a2s,a4b,a4a,a49,a1a,List.map_map,hil,a9d,a3r,a48,Cir.enc,a22,hle1,hle2,List.length_range,Nat.le_refl,a47]<;>rfl)
    ·have c1:¬ (x.gs.length:Int) < x.gates.length:=by omega
     (repeat first|simp only [ww]|(apply xa;simp +decide only [go_sem,c1,hm];rfl;kernel_rfl))
     -- the flip-flops' data
     refine a1c (σ:=Nat) kp27_6 (fun i=>[(1,.ptr 0 0 0),(2,.ptr 1 0 0),(3,.ptr 2 0 0),(5,.int .i64 x.k),(6,.int .i64 1),(9,.int .i64 x.n),(10,.int .i64 i)])
      (fun i=>match i with|0=>[xh x,rh,some (.row 4 [[.slice 3 0 x.n none,.nilslice,.nilslice,.nilslice]]),some (.row 4 (List.replicate x.k a46 ++ [dR 4] ++ gg.map Nd.enc))] ++ [one 0]|_=>[xh x,rh,some (.row 4 [[.slice 3 0 x.n none,.nilslice,.nilslice,.nilslice]]),some (.row 4 (List.replicate x.k a46 ++ [dR 4] ++ gg.map Nd.enc))] ++ [one (x.d0 % x.n)]) (fun i=>1 - i) (fun i=>i ≤ 1) 0 ?_ (Nat.zero_le _) ?_ ?_
     ·(simp +decide only [go_sem,a02,a00,hm,a08,a0h,List.append_assoc]<;>rfl)
     ·intro i hi
      by_cases hj0:i = 0
      ·subst hj0
       (simp +decide only [go_sem,a02,a00,hm,a08,a0h,List.append_assoc]<;>rfl)
      obtain rfl:i = 1:=by omega
      (simp +decide only [go_sem,a02,a00,hm,a08,a0h,List.append_assoc]<;>rfl)
     ·intro i hi
      by_cases hj0:i = 0
      ·subst hj0
       have hw:=wI1 (n:=0) (by omega)
       have hwa:IntKind.i64.wrap ((x.k:Int) + (((0:Nat)):Int)) = ((x.k + 0:Nat):Int):=by rw [w64 (by omega) (by omega)];omega
       have hwa':IntKind.i64.wrap ((x.k:Int) + 0) = ((x.k + 0:Nat):Int):=by rw [w64 (by omega) (by omega)];omega
       have wd:=wI (n:=x.d0) (by omega)
       have hin:x.k + 0 < x.n:=by omega
       have hin':x.k < x.n:=by omega
       (repeat first|simp only [ww]|(apply xa;simp +decide only [go_sem,hm,hw,hwa,hwa',wd,hn0,hin,hin',b0q,a8n,b0f,a8e,List.append_assoc];rfl;kernel_rfl))
       refine a1m 1 ?_ (by omega) (by omega)
       (simp +decide only [go_sem,a02,a00,hm,a08,a0h,List.append_assoc]<;>rfl)
      obtain rfl:i = 1:=by omega
      (repeat first|simp only [ww]|(apply xa;simp +decide only [go_sem,hm];rfl;kernel_rfl))
      -- the names
      refine a1c (σ:=Nat) kp27_8 (fun i=>[(1,.ptr 0 0 0),(2,.ptr 1 0 0),(3,.ptr 2 0 0),(9,.int .i64 x.n),(11,.int .i64 i)])
       (fun i=>[xh x,rh,some (.row 4 [[.slice 3 0 x.n none,slN 5 i,.nilslice,.nilslice]]),some (.row 4 (List.replicate x.k a46 ++ [dR 4] ++ gg.map Nd.enc))] ++ [one (x.d0 % x.n)] ++ nmH i) (fun i=>x.n - i) (fun i=>i ≤ x.n) 0 ?_ (Nat.zero_le _) ?_ ?_
      ·(simp +decide only [go_sem,a02,a00,hm,a6c,b78,a08,a0h,List.append_assoc]<;>rfl)
      ·intro i _
       cases i with
       | zero=>(simp +decide only [go_sem,a02,a00,hm,a6c,b78,a08,a0h,List.append_assoc]<;>rfl)
       | succ i=>(simp +decide only [go_sem,a02,a00,hm,a3s,b1o,a08,a0h,a13,a1g,List.append_assoc]<;>rfl)
      ·intro i hi
       by_cases hlt:i < x.n
       ·have c1:(i:Int) < x.n:=by omega
        have hw:=wI1 (n:=i) (by omega)
        have hcall:=fun H=>a6r (d:=true) H i (by omega)
        have hrm:i + 1 ≤ 1000000000:=by omega
        cases i with
        | zero=>
         (repeat first|simp only [ww]|(apply xa;simp +decide only [go_sem,hm,c1,hw,hcall,a6c,b78];rfl;kernel_rfl))
         refine a1m 1 ?_ (by omega) (by omega)
         (simp +decide only [go_sem,a02,a00,hm,a3s,b1o,a08,a0h,nm1,List.append_assoc]<;>rfl)
        | succ i=>
         have hrm:i + 1 + 1 ≤ 1000000000:=by omega
         (repeat first|simp only [ww]|(apply xa;simp +decide only [go_sem,hm,c1,hw,hcall,a3s,b1o,hrm,List.length_range];rfl;kernel_rfl))
         refine a1m (i + 1 + 1) ?_ (by omega) (by omega)
         (simp +decide only [go_sem,a02,a00,hm,a3s,b1o,a08,a0h,a13,a1g,b0n,List.append_assoc]<;>rfl)
       have hie:i = x.n:=by omega
       subst hie
       have c1:¬ (x.n:Int) < x.n:=by omega
       obtain ⟨n',hn'⟩:∃ n',x.n = n' + 1:=⟨x.n - 1,by omega⟩
       have e1:slN 5 x.n = .slice 5 0 x.n none:=by rw [hn'];rfl
       have e2:nmH x.n = [some (.row 1 ((List.range x.n).map nmR))]:=by rw [hn'];rfl
       rw [e1,e2]
       (repeat first|simp only [ww]|(apply xa;simp +decide only [go_sem,hm,c1];rfl;kernel_rfl))
       -- the outputs
       refine a1c (σ:=Nat) kp27_10 (fun i=>[(1,.ptr 0 0 0),(2,.ptr 1 0 0),(3,.ptr 2 0 0),(9,.int .i64 x.n),(12,.int .i64 i)])
        (fun i=>[xh x,rh,some (.row 4 [[.slice 3 0 x.n none,.slice 5 0 x.n none,.nilslice,slN 6 i]]),some (.row 4 (List.replicate x.k a46 ++ [dR 4] ++ gg.map Nd.enc))] ++ [one (x.d0 % x.n)] ++ [some (.row 1 ((List.range x.n).map nmR))] ++ otH x i) (fun i=>3 - i) (fun i=>i ≤ 3 ∧ i ≤ x.outs.length) 0 ?_ ⟨by omega,by omega⟩ ?_ ?_
       ·(simp +decide only [go_sem,a02,a00,hm,a6c,b1l,a08,a0h,a13,a1g,List.append_assoc]<;>rfl)
       ·intro i _
        cases i with
        | zero=>(simp +decide only [go_sem,a02,a00,hm,a6c,b1l,a08,a0h,a13,a1g,List.append_assoc]<;>rfl)
        | succ i=>(simp +decide only [go_sem,a02,a00,hm,a3s,a7l,a08,a0h,a13,a1g,a4y,a7i,List.append_assoc]<;>rfl)
       ·intro i hi
        by_cases hlt:i < 3 ∧ i < x.outs.length
        ·obtain ⟨o,ho⟩:∃ o,x.outs[i]? = some o:=⟨_,z9e hlt.2⟩
         have hol:=x6 o (List.mem_of_getElem? ho)
         have wo:=wI (n:=o) (by omega)
         have c1:(i:Int) < x.outs.length:=by omega
         have c1':i < x.outs.length:=by omega
         have c2:(i:Int) < 3:=by omega
         have hw:=wI1 (n:=i) (by omega)
         have ht:=a15 ho
         have htl:(x.outs.take i).length = i:=by rw [List.length_take];omega
         cases i with
         | zero=>
          (repeat first|simp only [ww]|(apply xa;simp +decide only [go_sem,hm,c1,c1',c2,hw,ho,wo,hn0,a6c,b1l];rfl;kernel_rfl))
          refine a1m 1 ?_ (by omega) ⟨by omega,by omega⟩
          (simp +decide only [go_sem,a02,a00,hm,a3s,a7l,a08,a0h,a13,a1g,ht,List.take_zero,List.append_assoc]<;>rfl)
         | succ i=>
          have hrm:i + 1 + 1 ≤ 1000000000:=by omega
          (repeat first|simp only [ww]|(apply xa;simp +decide only [go_sem,hm,c1,c1',c2,hw,ho,wo,hn0,a3s,a7l,hrm,htl];rfl;kernel_rfl))
          refine a1m (i + 1 + 1) ?_ (by omega) ⟨by omega,by omega⟩
          (simp +decide only [go_sem,a02,a00,hm,a3s,a7l,a08,a0h,a13,a1g,a4y,a7i,ht,List.append_assoc]<;>rfl)
        have hio:x.outs.take i = x.outs.take 3:=by
         by_cases h3:i = 3
         ·rw [h3]
         ·rw [List.take_of_length_le (by omega),List.take_of_length_le (by omega)]
        have hil:(x.outs.take i).length = i:=by rw [List.length_take];omega
        have hwn:IntKind.i64.wrap ((x.n:Int) - 1) = ((x.n - 1:Nat):Int):=by rw [w64 (by omega) (by omega)];omega
        have hres:x.cir = ⟨some none,List.replicate x.k a9d ++ [a3r (x.d0 % x.n)] ++ gg,some none,(List.range x.n).map a2y,some none,(x.outs.take i).map (·% x.n) ++ [x.n - 1]⟩:=by
         rw [hio,← hG];simp [CX.cir,CX.nodes,CX.dn,CX.names,CX.outN,hd]
        rw [hres]
        have hle1:x.n ≤ x.k + 1 + gg.length:=by omega
        have hle2:x.k + 1 + gg.length ≤ x.n:=by omega
        by_cases g1:i < x.outs.length
        ·have c1:(i:Int) < x.outs.length:=by omega
         have c2:¬ (i:Int) < 3:=by omega
         have hrm:i + 1 ≤ 1000000000:=by omega
         cases i with
         | zero=>omega
         | succ i=>
          have hrm:i + 1 + 1 ≤ 1000000000:=by omega
          (repeat first|simp only [ww]|(apply xa;simp +decide only [go_sem,hm,c1,c2,a3s,a7l,hrm,hwn,hil];rfl;kernel_rfl))
          (apply fqb;simp +decide only [go_sem,hm,a2s,a4b,a4a,a49,a1a,List.map_map,hil,a9d,a3r,a48,Cir.enc,a22,hle1,hle2,List.length_range,Nat.le_refl,a47]<;>rfl)
        ·have c1:¬ (i:Int) < x.outs.length:=by omega
         cases i with
         | zero=>
          (repeat first|simp only [ww]|(apply xa;simp +decide only [go_sem,hm,c1,a6c,b1l,hwn,hil];rfl;kernel_rfl))
          (apply fqb;simp +decide only [go_sem,hm,a2s,a4b,a4a,a49,a1a,List.map_map,hil,a9d,a3r,a48,Cir.enc,a22,hle1,hle2,List.length_range,Nat.le_refl,a47,List.take_zero]<;>rfl)
         | succ i=>
          have hrm:i + 1 + 1 ≤ 1000000000:=by omega
          (repeat first|simp only [ww]|(apply xa;simp +decide only [go_sem,hm,c1,a3s,a7l,hrm,hwn,hil];rfl;kernel_rfl))
          (apply fqb;simp +decide only [go_sem,hm,a2s,a4b,a4a,a49,a1a,List.map_map,hil,a9d,a3r,a48,Cir.enc,a22,hle1,hle2,List.length_range,Nat.le_refl,a47]<;>rfl)
theorem e17 (x:CX) (hx:x.ok) (hm:x.mem = false) (hd:x.d = 2) :
 sem L.env Mf 27 [.agg x.enc] [] = some (.agg x.cir.enc,[]):=by
 obtain ⟨x1,x2,x3,x4,x5,x6⟩:=hx
 have hk1:x.inn % 4 + 1 = x.k:=rfl
 have hd':x.dffs % 3 = 2:=hd
 have kk:x.k ≤ 4:=by unfold CX.k;omega
 have kp:0 < x.k:=by unfold CX.k;omega
 have gl:x.gs.length ≤ 8:=by unfold CX.gs;rw [List.length_take];omega
 have w4:=wI (n:=x.inn % 4) (by omega)
 have w3:=wI (n:=x.dffs % 3) (by omega)
 obtain ⟨k',hk'⟩:∃ k',x.k = k' + 1:=⟨x.k - 1,by omega⟩
 (refine sv Tryz.f27 ?_;simp only [Tryz.f27,gS])
 (repeat first|simp only [ww]|(apply xa;simp +decide only [go_sem];rfl;kernel_rfl))
 -- the inputs
 refine a1c (σ:=Nat) kp27_0 (fun i=>[(1,.ptr 0 0 0),(2,.ptr 1 0 0),(3,.ptr 2 0 0),(4,.int .i64 i)])
  (fun i=>[xh x,rh,some (.row 4 [[nV i,.nilslice,.nilslice,.nilslice]])] ++ nH i) (fun i=>x.k - i) (fun i=>i ≤ x.k) 0 ?_ (Nat.zero_le _) ?_ ?_
 ·(simp +decide only [go_sem,a02,a00,nV0,nH0]<;>rfl)
 ·intro i _
  cases i with
  | zero=>((simp +decide only [go_sem,a02,a00,nV0,nH0]<;>rfl))
  | succ i=>((simp +decide only [go_sem,a02,a00,nVs,nHs]<;>rfl))
 ·intro i hi
  by_cases hlt:i < x.k
  ·have c1:(i:Int) ≤ ((x.inn % 4:Nat):Int):=by omega
   have hw:=wI1 (n:=i) (by omega)
   cases i with
   | zero=>
    (repeat first|simp only [ww]|(apply xa;simp +decide only [go_sem,w4,c1,hw,nV0,nH0];rfl;kernel_rfl))
    refine a1m 1 ?_ (by omega) (by omega)
    ((simp +decide only [go_sem,a02,a00,nVs,nHs]<;>rfl))
   | succ i=>
    have hrm:i + 1 + 1 ≤ 1000000000:=by omega
    (repeat first|simp only [ww]|(apply xa;simp +decide only [go_sem,w4,c1,hw,nVs,nHs,hrm,a53];rfl;kernel_rfl))
    refine a1m (i + 1 + 1) ?_ (by omega) (by omega)
    ((simp +decide only [go_sem,a02,a00,nVs,nHs,a53]<;>rfl))
  have hik:i = x.k:=by omega
  subst hik
  have c1:¬ ((x.k:Nat):Int) ≤ ((x.inn % 4:Nat):Int):=by omega
  have nVk:nV x.k = .slice 3 0 x.k none:=by rw [hk'];rfl
  have nHk:nH x.k = [some (.row 4 (List.replicate x.k a46))]:=by rw [hk'];rfl
  rw [nVk,nHk]
  (repeat first|simp only [ww]|(apply xa;simp +decide only [go_sem,w4,w3,c1,hd'];rfl;kernel_rfl))
  -- the flip-flops
  refine a1c (σ:=Nat) kp27_2 (fun i=>[(1,.ptr 0 0 0),(2,.ptr 1 0 0),(3,.ptr 2 0 0),(5,.int .i64 x.k),(6,.int .i64 2),(7,.int .i64 i)])
   (fun i=>match i with|0=>[xh x,rh,some (.row 4 [[.slice 3 0 (x.k + 0) none,.nilslice,.nilslice,.nilslice]]),some (.row 4 (List.replicate x.k a46 ++ []))] ++ []|1=>[xh x,rh,some (.row 4 [[.slice 3 0 (x.k + 1) none,.nilslice,.nilslice,.nilslice]]),some (.row 4 (List.replicate x.k a46 ++ [dR 4]))] ++ [one 0]|_=>[xh x,rh,some (.row 4 [[.slice 3 0 (x.k + 2) none,.nilslice,.nilslice,.nilslice]]),some (.row 4 (List.replicate x.k a46 ++ [dR 4,dR 5]))] ++ [one 0,one 0]) (fun i=>2 - i) (fun i=>i ≤ 2) 0 ?_ (Nat.zero_le _) ?_ ?_
  ·(simp +decide only [go_sem,a02,a00]<;>rfl)
  ·intro i hi
   by_cases hj0:i = 0
   ·subst hj0
    ((simp +decide only [go_sem,a02,a00]<;>rfl))
   by_cases hj1:i = 1
   ·subst hj1
    ((simp +decide only [go_sem,a02,a00]<;>rfl))
   obtain rfl:i = 2:=by omega
   ((simp +decide only [go_sem,a02,a00]<;>rfl))
  ·intro i hi
   by_cases hj0:i = 0
   ·subst hj0
    have hrm:x.k + 0 + 1 ≤ 1000000000:=by omega
    have hw:=wI1 (n:=0) (by omega)
    (repeat first|simp only [ww]|(apply xa;simp +decide only [go_sem,hrm,a53,hw];rfl;kernel_rfl))
    refine a1m 1 ?_ (by omega) (by omega)
    ((simp +decide only [go_sem,a02,a00,List.append_assoc]<;>rfl))
   by_cases hj1:i = 1
   ·subst hj1
    have hrm:x.k + 1 + 1 ≤ 1000000000:=by omega
    have hw:=wI1 (n:=1) (by omega)
    (repeat first|simp only [ww]|(apply xa;simp +decide only [go_sem,hrm,a53,hw];rfl;kernel_rfl))
    refine a1m 2 ?_ (by omega) (by omega)
    ((simp +decide only [go_sem,a02,a00,List.append_assoc]<;>rfl))
   obtain rfl:i = 2:=by omega
   (repeat first|simp only [ww]|(apply xa;simp +decide only [go_sem,hm];rfl;kernel_rfl))
   -- the gates
   refine a1c (σ:=Nat) kp27_4 (fun i=>[(1,.ptr 0 0 0),(2,.ptr 1 0 0),(3,.ptr 2 0 0),(5,.int .i64 x.k),(6,.int .i64 2),(8,.int .i64 i)])
    (fun i=>[xh x,rh,some (.row 4 [[.slice 3 0 (x.k + 2 + i) none,.nilslice,.nilslice,.nilslice]]),some (.row 4 (List.replicate x.k a46 ++ [dR 4,dR 5] ++ (gN x.bus x.base (x.gates.take i)).map Nd.enc))] ++ [one 0,one 0]) (fun i=>x.gs.length - i) (fun i=>i ≤ x.gs.length) 0 ?_ (Nat.zero_le _) ?_ ?_
   ·(simp +decide only [go_sem,a02,a00,hm,List.take_zero,c7l,List.append_assoc]<;>rfl)
   ·intro i _
    (simp +decide only [go_sem,a02,a00,hm,a08,a0h,List.append_assoc]<;>rfl)
   ·intro i hi
    have hgl:x.gs.length = min 8 x.gates.length:=by unfold CX.gs;rw [List.length_take]
    by_cases hlt:i < x.gs.length
    ·obtain ⟨g,hg⟩:∃ g,x.gates[i]? = some g:=⟨_,z9e (by omega)⟩
     have c1:(i:Int) < x.gates.length:=by omega
     have c1':i < x.gates.length:=by omega
     have c2:(i:Int) < 8:=by omega
     have hw:=wI1 (n:=i) (by omega)
     have hgok:g.ok:=x5 g (List.mem_of_getElem? hg)
     have hgn:(gN x.bus x.base (x.gates.take i)).length = i:=by rw [a4r,List.length_take];omega
     have hs:=b6f x.bus g (x.gates.take i) x.base
     rw [← a15 hg] at hs
     have hcall:=c3t (d:=true) x g hgok (gN x.bus x.base (x.gates.take i)) x.k (x.k + 2 + i) kp (by rw [hgn]) (by omega) (xh x) rh (some (.row 4 [[.slice 3 0 (x.k + 2 + i) none,.nilslice,.nilslice,.nilslice]]))
     rw [show List.replicate x.k 0 ++ List.replicate 2 14 ++ (gN x.bus x.base (x.gates.take i)).map Nd.kind = x.base ++ (gN x.bus x.base (x.gates.take i)).map Nd.kind by unfold CX.base;rw [hd]] at hcall
     generalize a0o x.bus g (x.base ++ (gN x.bus x.base (x.gates.take i)).map Nd.kind) = nd at hcall hs
     simp +decide only [go_sem,hm,List.append_assoc] at hcall
     have hrm:x.k + 2 + i + 1 ≤ 1000000000:=by omega
     have hlen:decide (x.k + 2 + i = x.k + (i + 1 + 1)) = true:=decide_eq_true (by omega)
     (repeat first|simp only [ww]|(apply xa;simp +decide only [go_sem,hm,c1,c1',c2,hw,hg,hcall,hrm,hlen,List.append_assoc,hgn];rfl;kernel_rfl))
     refine a1m (i + 1) ?_ (by omega) (by omega)
     rw [hs]
     (simp +decide only [go_sem,a02,a00,hm,a08,a0h,List.append_assoc]<;>rfl)
    have hie:i = x.gs.length:=by omega
    subst hie
    rw [x.gs_take]
    have hgn:(gN x.bus x.base x.gs).length = x.gs.length:=a4r _ _ _
    have hnn:x.n = x.k + 2 + x.gs.length:=by unfold CX.n;rw [hd]
    rw [← hnn]
    generalize hG:gN x.bus x.base x.gs = gg at hgn
    have hnp:0 < x.n:=by omega
    have hnl:x.n ≤ 14:=by omega
    have hn0:¬ (x.n:Int) = 0:=by omega
    have hstop:¬ ((x.gs.length:Int) < x.gates.length ∧ (x.gs.length:Int) < 8):=by omega
    -- the guard of the loop's end is decided in either case
    have hfin:∀ F,F = [(1,AV.ptr 0 0 0),(2,.ptr 1 0 0),(3,.ptr 2 0 0),(5,.int .i64 x.k),(6,.int .i64 2),(8,.int .i64 x.gs.length)] → True:=fun _ _=>trivial
    by_cases g1:x.gs.length < x.gates.length
    ·have c1:(x.gs.length:Int) < x.gates.length:=by omega
     have c2:¬ (x.gs.length:Int) < 8:=by omega
     (repeat first|simp only [ww]|(apply xa;simp +decide only [go_sem,c1,c2,hm];rfl;kernel_rfl))
     -- the flip-flops' data
     refine a1c (σ:=Nat) kp27_6 (fun i=>[(1,.ptr 0 0 0),(2,.ptr 1 0 0),(3,.ptr 2 0 0),(5,.int .i64 x.k),(6,.int .i64 2),(9,.int .i64 x.n),(10,.int .i64 i)])
      (fun i=>match i with|0=>[xh x,rh,some (.row 4 [[.slice 3 0 x.n none,.nilslice,.nilslice,.nilslice]]),some (.row 4 (List.replicate x.k a46 ++ [dR 4,dR 5] ++ gg.map Nd.enc))] ++ [one 0,one 0]|1=>[xh x,rh,some (.row 4 [[.slice 3 0 x.n none,.nilslice,.nilslice,.nilslice]]),some (.row 4 (List.replicate x.k a46 ++ [dR 4,dR 5] ++ gg.map Nd.enc))] ++ [one (x.d0 % x.n),one 0]|_=>[xh x,rh,some (.row 4 [[.slice 3 0 x.n none,.nilslice,.nilslice,.nilslice]]),some (.row 4 (List.replicate x.k a46 ++ [dR 4,dR 5] ++ gg.map Nd.enc))] ++ [one (x.d0 % x.n),one (x.d1 % x.n)]) (fun i=>2 - i) (fun i=>i ≤ 2) 0 ?_ (Nat.zero_le _) ?_ ?_
     ·(simp +decide only [go_sem,a02,a00,hm,a08,a0h,List.append_assoc]<;>rfl)
     ·intro i hi
      by_cases hj0:i = 0
      ·subst hj0
       (simp +decide only [go_sem,a02,a00,hm,a08,a0h,List.append_assoc]<;>rfl)
      by_cases hj1:i = 1
      ·subst hj1
       (simp +decide only [go_sem,a02,a00,hm,a08,a0h,List.append_assoc]<;>rfl)
      obtain rfl:i = 2:=by omega
      (simp +decide only [go_sem,a02,a00,hm,a08,a0h,List.append_assoc]<;>rfl)
     ·intro i hi
      by_cases hj0:i = 0
      ·subst hj0
       have hw:=wI1 (n:=0) (by omega)
       have hwa:IntKind.i64.wrap ((x.k:Int) + (((0:Nat)):Int)) = ((x.k + 0:Nat):Int):=by rw [w64 (by omega) (by omega)];omega
       have hwa':IntKind.i64.wrap ((x.k:Int) + 0) = ((x.k + 0:Nat):Int):=by rw [w64 (by omega) (by omega)];omega
       have wd:=wI (n:=x.d0) (by omega)
       have hin:x.k + 0 < x.n:=by omega
       have hin':x.k < x.n:=by omega
       (repeat first|simp only [ww]|(apply xa;simp +decide only [go_sem,hm,hw,hwa,hwa',wd,hn0,hin,hin',b0q,a8n,b0f,a8e,List.append_assoc];rfl;kernel_rfl))
       refine a1m 1 ?_ (by omega) (by omega)
       (simp +decide only [go_sem,a02,a00,hm,a08,a0h,List.append_assoc]<;>rfl)
      by_cases hj1:i = 1
      ·subst hj1
       have hw:=wI1 (n:=1) (by omega)
       have hwa:IntKind.i64.wrap ((x.k:Int) + (((1:Nat)):Int)) = ((x.k + 1:Nat):Int):=by rw [w64 (by omega) (by omega)];omega
       have hwa':IntKind.i64.wrap ((x.k:Int) + 1) = ((x.k + 1:Nat):Int):=by rw [w64 (by omega) (by omega)];omega
       have wd:=wI (n:=x.d1) (by omega)
       have hin:x.k + 1 < x.n:=by omega
       have hin':x.k < x.n:=by omega
       (repeat first|simp only [ww]|(apply xa;simp +decide only [go_sem,hm,hw,hwa,hwa',wd,hn0,hin,hin',b0q,a8n,b0f,a8e,List.append_assoc];rfl;kernel_rfl))
       refine a1m 2 ?_ (by omega) (by omega)
       (simp +decide only [go_sem,a02,a00,hm,a08,a0h,List.append_assoc]<;>rfl)
      obtain rfl:i = 2:=by omega
      (repeat first|simp only [ww]|(apply xa;simp +decide only [go_sem,hm];rfl;kernel_rfl))
      -- the names
      refine a1c (σ:=Nat) kp27_8 (fun i=>[(1,.ptr 0 0 0),(2,.ptr 1 0 0),(3,.ptr 2 0 0),(9,.int .i64 x.n),(11,.int .i64 i)])
       (fun i=>[xh x,rh,some (.row 4 [[.slice 3 0 x.n none,slN 6 i,.nilslice,.nilslice]]),some (.row 4 (List.replicate x.k a46 ++ [dR 4,dR 5] ++ gg.map Nd.enc))] ++ [one (x.d0 % x.n),one (x.d1 % x.n)] ++ nmH i) (fun i=>x.n - i) (fun i=>i ≤ x.n) 0 ?_ (Nat.zero_le _) ?_ ?_
      ·(simp +decide only [go_sem,a02,a00,hm,a6c,b78,a08,a0h,List.append_assoc]<;>rfl)
      ·intro i _
       cases i with
       | zero=>(simp +decide only [go_sem,a02,a00,hm,a6c,b78,a08,a0h,List.append_assoc]<;>rfl)
       | succ i=>(simp +decide only [go_sem,a02,a00,hm,a3s,b1o,a08,a0h,a13,a1g,List.append_assoc]<;>rfl)
      ·intro i hi
       by_cases hlt:i < x.n
       ·have c1:(i:Int) < x.n:=by omega
        have hw:=wI1 (n:=i) (by omega)
        have hcall:=fun H=>a6r (d:=true) H i (by omega)
        have hrm:i + 1 ≤ 1000000000:=by omega
        cases i with
        | zero=>
         (repeat first|simp only [ww]|(apply xa;simp +decide only [go_sem,hm,c1,hw,hcall,a6c,b78];rfl;kernel_rfl))
         refine a1m 1 ?_ (by omega) (by omega)
         (simp +decide only [go_sem,a02,a00,hm,a3s,b1o,a08,a0h,nm1,List.append_assoc]<;>rfl)
        | succ i=>
         have hrm:i + 1 + 1 ≤ 1000000000:=by omega
         (repeat first|simp only [ww]|(apply xa;simp +decide only [go_sem,hm,c1,hw,hcall,a3s,b1o,hrm,List.length_range];rfl;kernel_rfl))
         refine a1m (i + 1 + 1) ?_ (by omega) (by omega)
         (simp +decide only [go_sem,a02,a00,hm,a3s,b1o,a08,a0h,a13,a1g,b0n,List.append_assoc]<;>rfl)
       have hie:i = x.n:=by omega
       subst hie
       have c1:¬ (x.n:Int) < x.n:=by omega
       obtain ⟨n',hn'⟩:∃ n',x.n = n' + 1:=⟨x.n - 1,by omega⟩
       have e1:slN 6 x.n = .slice 6 0 x.n none:=by rw [hn'];rfl
       have e2:nmH x.n = [some (.row 1 ((List.range x.n).map nmR))]:=by rw [hn'];rfl
       rw [e1,e2]
       (repeat first|simp only [ww]|(apply xa;simp +decide only [go_sem,hm,c1];rfl;kernel_rfl))
       -- the outputs
       refine a1c (σ:=Nat) kp27_10 (fun i=>[(1,.ptr 0 0 0),(2,.ptr 1 0 0),(3,.ptr 2 0 0),(9,.int .i64 x.n),(12,.int .i64 i)])
        (fun i=>[xh x,rh,some (.row 4 [[.slice 3 0 x.n none,.slice 6 0 x.n none,.nilslice,slN 7 i]]),some (.row 4 (List.replicate x.k a46 ++ [dR 4,dR 5] ++ gg.map Nd.enc))] ++ [one (x.d0 % x.n),one (x.d1 % x.n)] ++ [some (.row 1 ((List.range x.n).map nmR))] ++ otH x i) (fun i=>3 - i) (fun i=>i ≤ 3 ∧ i ≤ x.outs.length) 0 ?_ ⟨by omega,by omega⟩ ?_ ?_
       ·(simp +decide only [go_sem,a02,a00,hm,a6c,b1l,a08,a0h,a13,a1g,List.append_assoc]<;>rfl)
       ·intro i _
        cases i with
        | zero=>(simp +decide only [go_sem,a02,a00,hm,a6c,b1l,a08,a0h,a13,a1g,List.append_assoc]<;>rfl)
        | succ i=>(simp +decide only [go_sem,a02,a00,hm,a3s,a7l,a08,a0h,a13,a1g,a4y,a7i,List.append_assoc]<;>rfl)
       ·intro i hi
        by_cases hlt:i < 3 ∧ i < x.outs.length
        ·obtain ⟨o,ho⟩:∃ o,x.outs[i]? = some o:=⟨_,z9e hlt.2⟩
         have hol:=x6 o (List.mem_of_getElem? ho)
         have wo:=wI (n:=o) (by omega)
         have c1:(i:Int) < x.outs.length:=by omega
         have c1':i < x.outs.length:=by omega
         have c2:(i:Int) < 3:=by omega
         have hw:=wI1 (n:=i) (by omega)
         have ht:=a15 ho
         have htl:(x.outs.take i).length = i:=by rw [List.length_take];omega
         cases i with
         | zero=>
          (repeat first|simp only [ww]|(apply xa;simp +decide only [go_sem,hm,c1,c1',c2,hw,ho,wo,hn0,a6c,b1l];rfl;kernel_rfl))
          refine a1m 1 ?_ (by omega) ⟨by omega,by omega⟩
          (simp +decide only [go_sem,a02,a00,hm,a3s,a7l,a08,a0h,a13,a1g,ht,List.take_zero,List.append_assoc]<;>rfl)
         | succ i=>
          have hrm:i + 1 + 1 ≤ 1000000000:=by omega
          (repeat first|simp only [ww]|(apply xa;simp +decide only [go_sem,hm,c1,c1',c2,hw,ho,wo,hn0,a3s,a7l,hrm,htl];rfl;kernel_rfl))
          refine a1m (i + 1 + 1) ?_ (by omega) ⟨by omega,by omega⟩
          (simp +decide only [go_sem,a02,a00,hm,a3s,a7l,a08,a0h,a13,a1g,a4y,a7i,ht,List.append_assoc]<;>rfl)
        have hio:x.outs.take i = x.outs.take 3:=by
         by_cases h3:i = 3
         ·rw [h3]
         ·rw [List.take_of_length_le (by omega),List.take_of_length_le (by omega)]
        have hil:(x.outs.take i).length = i:=by rw [List.length_take];omega
        have hwn:IntKind.i64.wrap ((x.n:Int) - 1) = ((x.n - 1:Nat):Int):=by rw [w64 (by omega) (by omega)];omega
        have hres:x.cir = ⟨some none,List.replicate x.k a9d ++ [a3r (x.d0 % x.n),a3r (x.d1 % x.n)] ++ gg,some none,(List.range x.n).map a2y,some none,(x.outs.take i).map (·% x.n) ++ [x.n - 1]⟩:=by
         rw [hio,← hG];simp [CX.cir,CX.nodes,CX.dn,CX.names,CX.outN,hd]
        rw [hres]
        have hle1:x.n ≤ x.k + 2 + gg.length:=by omega
        have hle2:x.k + 2 + gg.length ≤ x.n:=by omega
        by_cases g1:i < x.outs.length
        ·have c1:(i:Int) < x.outs.length:=by omega
         have c2:¬ (i:Int) < 3:=by omega
         have hrm:i + 1 ≤ 1000000000:=by omega
         cases i with
         | zero=>omega
         | succ i=>
          have hrm:i + 1 + 1 ≤ 1000000000:=by omega
          (repeat first|simp only [ww]|(apply xa;simp +decide only [go_sem,hm,c1,c2,a3s,a7l,hrm,hwn,hil];rfl;kernel_rfl))
          (apply fqb;simp +decide only [go_sem,hm,a2s,a4b,a4a,a49,a1a,List.map_map,hil,a9d,a3r,a48,Cir.enc,a22,hle1,hle2,List.length_range,Nat.le_refl,a47]<;>rfl)
        ·have c1:¬ (i:Int) < x.outs.length:=by omega
         cases i with
         | zero=>
          (repeat first|simp only [ww]|(apply xa;simp +decide only [go_sem,hm,c1,a6c,b1l,hwn,hil];rfl;kernel_rfl))
          (apply fqb;simp +decide only [go_sem,hm,a2s,a4b,a4a,a49,a1a,List.map_map,hil,a9d,a3r,a48,Cir.enc,a22,hle1,hle2,List.length_range,Nat.le_refl,a47,List.take_zero]<;>rfl)
         | succ i=>
          have hrm:i + 1 + 1 ≤ 1000000000:=by omega
          (repeat first|simp only [ww]|(apply xa;simp +decide only [go_sem,hm,c1,a3s,a7l,hrm,hwn,hil];rfl;kernel_rfl))
          (apply fqb;simp +decide only [go_sem,hm,a2s,a4b,a4a,a49,a1a,List.map_map,hil,a9d,a3r,a48,Cir.enc,a22,hle1,hle2,List.length_range,Nat.le_refl,a47]<;>rfl)
    ·have c1:¬ (x.gs.length:Int) < x.gates.length:=by omega
     (repeat first|simp only [ww]|(apply xa;simp +decide only [go_sem,c1,hm];rfl;kernel_rfl))
     -- the flip-flops' data
     refine a1c (σ:=Nat) kp27_6 (fun i=>[(1,.ptr 0 0 0),(2,.ptr 1 0 0),(3,.ptr 2 0 0),(5,.int .i64 x.k),(6,.int .i64 2),(9,.int .i64 x.n),(10,.int .i64 i)])
      (fun i=>match i with|0=>[xh x,rh,some (.row 4 [[.slice 3 0 x.n none,.nilslice,.nilslice,.nilslice]]),some (.row 4 (List.replicate x.k a46 ++ [dR 4,dR 5] ++ gg.map Nd.enc))] ++ [one 0,one 0]|1=>[xh x,rh,some (.row 4 [[.slice 3 0 x.n none,.nilslice,.nilslice,.nilslice]]),some (.row 4 (List.replicate x.k a46 ++ [dR 4,dR 5] ++ gg.map Nd.enc))] ++ [one (x.d0 % x.n),one 0]|_=>[xh x,rh,some (.row 4 [[.slice 3 0 x.n none,.nilslice,.nilslice,.nilslice]]),some (.row 4 (List.replicate x.k a46 ++ [dR 4,dR 5] ++ gg.map Nd.enc))] ++ [one (x.d0 % x.n),one (x.d1 % x.n)]) (fun i=>2 - i) (fun i=>i ≤ 2) 0 ?_ (Nat.zero_le _) ?_ ?_
     ·(simp +decide only [go_sem,a02,a00,hm,a08,a0h,List.append_assoc]<;>rfl)
     ·intro i hi
      by_cases hj0:i = 0
      ·subst hj0
       (simp +decide only [go_sem,a02,a00,hm,a08,a0h,List.append_assoc]<;>rfl)
      by_cases hj1:i = 1
      ·subst hj1
       (simp +decide only [go_sem,a02,a00,hm,a08,a0h,List.append_assoc]<;>rfl)
      obtain rfl:i = 2:=by omega
      (simp +decide only [go_sem,a02,a00,hm,a08,a0h,List.append_assoc]<;>rfl)
     ·intro i hi
      by_cases hj0:i = 0
      ·subst hj0
       have hw:=wI1 (n:=0) (by omega)
       have hwa:IntKind.i64.wrap ((x.k:Int) + (((0:Nat)):Int)) = ((x.k + 0:Nat):Int):=by rw [w64 (by omega) (by omega)];omega
       have hwa':IntKind.i64.wrap ((x.k:Int) + 0) = ((x.k + 0:Nat):Int):=by rw [w64 (by omega) (by omega)];omega
       have wd:=wI (n:=x.d0) (by omega)
       have hin:x.k + 0 < x.n:=by omega
       have hin':x.k < x.n:=by omega
       (repeat first|simp only [ww]|(apply xa;simp +decide only [go_sem,hm,hw,hwa,hwa',wd,hn0,hin,hin',b0q,a8n,b0f,a8e,List.append_assoc];rfl;kernel_rfl))
       refine a1m 1 ?_ (by omega) (by omega)
       (simp +decide only [go_sem,a02,a00,hm,a08,a0h,List.append_assoc]<;>rfl)
      by_cases hj1:i = 1
      ·subst hj1
       have hw:=wI1 (n:=1) (by omega)
       have hwa:IntKind.i64.wrap ((x.k:Int) + (((1:Nat)):Int)) = ((x.k + 1:Nat):Int):=by rw [w64 (by omega) (by omega)];omega
       have hwa':IntKind.i64.wrap ((x.k:Int) + 1) = ((x.k + 1:Nat):Int):=by rw [w64 (by omega) (by omega)];omega
       have wd:=wI (n:=x.d1) (by omega)
       have hin:x.k + 1 < x.n:=by omega
       have hin':x.k < x.n:=by omega
       (repeat first|simp only [ww]|(apply xa;simp +decide only [go_sem,hm,hw,hwa,hwa',wd,hn0,hin,hin',b0q,a8n,b0f,a8e,List.append_assoc];rfl;kernel_rfl))
       refine a1m 2 ?_ (by omega) (by omega)
       (simp +decide only [go_sem,a02,a00,hm,a08,a0h,List.append_assoc]<;>rfl)
      obtain rfl:i = 2:=by omega
      (repeat first|simp only [ww]|(apply xa;simp +decide only [go_sem,hm];rfl;kernel_rfl))
      -- the names
      refine a1c (σ:=Nat) kp27_8 (fun i=>[(1,.ptr 0 0 0),(2,.ptr 1 0 0),(3,.ptr 2 0 0),(9,.int .i64 x.n),(11,.int .i64 i)])
       (fun i=>[xh x,rh,some (.row 4 [[.slice 3 0 x.n none,slN 6 i,.nilslice,.nilslice]]),some (.row 4 (List.replicate x.k a46 ++ [dR 4,dR 5] ++ gg.map Nd.enc))] ++ [one (x.d0 % x.n),one (x.d1 % x.n)] ++ nmH i) (fun i=>x.n - i) (fun i=>i ≤ x.n) 0 ?_ (Nat.zero_le _) ?_ ?_
      ·(simp +decide only [go_sem,a02,a00,hm,a6c,b78,a08,a0h,List.append_assoc]<;>rfl)
      ·intro i _
       cases i with
       | zero=>(simp +decide only [go_sem,a02,a00,hm,a6c,b78,a08,a0h,List.append_assoc]<;>rfl)
       | succ i=>(simp +decide only [go_sem,a02,a00,hm,a3s,b1o,a08,a0h,a13,a1g,List.append_assoc]<;>rfl)
      ·intro i hi
       by_cases hlt:i < x.n
       ·have c1:(i:Int) < x.n:=by omega
        have hw:=wI1 (n:=i) (by omega)
        have hcall:=fun H=>a6r (d:=true) H i (by omega)
        have hrm:i + 1 ≤ 1000000000:=by omega
        cases i with
        | zero=>
         (repeat first|simp only [ww]|(apply xa;simp +decide only [go_sem,hm,c1,hw,hcall,a6c,b78];rfl;kernel_rfl))
         refine a1m 1 ?_ (by omega) (by omega)
         (simp +decide only [go_sem,a02,a00,hm,a3s,b1o,a08,a0h,nm1,List.append_assoc]<;>rfl)
        | succ i=>
         have hrm:i + 1 + 1 ≤ 1000000000:=by omega
         (repeat first|simp only [ww]|(apply xa;simp +decide only [go_sem,hm,c1,hw,hcall,a3s,b1o,hrm,List.length_range];rfl;kernel_rfl))
         refine a1m (i + 1 + 1) ?_ (by omega) (by omega)
         (simp +decide only [go_sem,a02,a00,hm,a3s,b1o,a08,a0h,a13,a1g,b0n,List.append_assoc]<;>rfl)
       have hie:i = x.n:=by omega
       subst hie
       have c1:¬ (x.n:Int) < x.n:=by omega
       obtain ⟨n',hn'⟩:∃ n',x.n = n' + 1:=⟨x.n - 1,by omega⟩
       have e1:slN 6 x.n = .slice 6 0 x.n none:=by rw [hn'];rfl
       have e2:nmH x.n = [some (.row 1 ((List.range x.n).map nmR))]:=by rw [hn'];rfl
       rw [e1,e2]
       (repeat first|simp only [ww]|(apply xa;simp +decide only [go_sem,hm,c1];rfl;kernel_rfl))
       -- the outputs
       refine a1c (σ:=Nat) kp27_10 (fun i=>[(1,.ptr 0 0 0),(2,.ptr 1 0 0),(3,.ptr 2 0 0),(9,.int .i64 x.n),(12,.int .i64 i)])
        (fun i=>[xh x,rh,some (.row 4 [[.slice 3 0 x.n none,.slice 6 0 x.n none,.nilslice,slN 7 i]]),some (.row 4 (List.replicate x.k a46 ++ [dR 4,dR 5] ++ gg.map Nd.enc))] ++ [one (x.d0 % x.n),one (x.d1 % x.n)] ++ [some (.row 1 ((List.range x.n).map nmR))] ++ otH x i) (fun i=>3 - i) (fun i=>i ≤ 3 ∧ i ≤ x.outs.length) 0 ?_ ⟨by omega,by omega⟩ ?_ ?_
       ·(simp +decide only [go_sem,a02,a00,hm,a6c,b1l,a08,a0h,a13,a1g,List.append_assoc]<;>rfl)
       ·intro i _
        cases i with
        | zero=>(simp +decide only [go_sem,a02,a00,hm,a6c,b1l,a08,a0h,a13,a1g,List.append_assoc]<;>rfl)
        | succ i=>(simp +decide only [go_sem,a02,a00,hm,a3s,a7l,a08,a0h,a13,a1g,a4y,a7i,List.append_assoc]<;>rfl)
       ·intro i hi
        by_cases hlt:i < 3 ∧ i < x.outs.length
        ·obtain ⟨o,ho⟩:∃ o,x.outs[i]? = some o:=⟨_,z9e hlt.2⟩
         have hol:=x6 o (List.mem_of_getElem? ho)
         have wo:=wI (n:=o) (by omega)
         have c1:(i:Int) < x.outs.length:=by omega
         have c1':i < x.outs.length:=by omega
         have c2:(i:Int) < 3:=by omega
         have hw:=wI1 (n:=i) (by omega)
         have ht:=a15 ho
         have htl:(x.outs.take i).length = i:=by rw [List.length_take];omega
         cases i with
         | zero=>
          (repeat first|simp only [ww]|(apply xa;simp +decide only [go_sem,hm,c1,c1',c2,hw,ho,wo,hn0,a6c,b1l];rfl;kernel_rfl))
          refine a1m 1 ?_ (by omega) ⟨by omega,by omega⟩
          (simp +decide only [go_sem,a02,a00,hm,a3s,a7l,a08,a0h,a13,a1g,ht,List.take_zero,List.append_assoc]<;>rfl)
         | succ i=>
          have hrm:i + 1 + 1 ≤ 1000000000:=by omega
          (repeat first|simp only [ww]|(apply xa;simp +decide only [go_sem,hm,c1,c1',c2,hw,ho,wo,hn0,a3s,a7l,hrm,htl];rfl;kernel_rfl))
          refine a1m (i + 1 + 1) ?_ (by omega) ⟨by omega,by omega⟩
          (simp +decide only [go_sem,a02,a00,hm,a3s,a7l,a08,a0h,a13,a1g,a4y,a7i,ht,List.append_assoc]<;>rfl)
        have hio:x.outs.take i = x.outs.take 3:=by
         by_cases h3:i = 3
         ·rw [h3]
         ·rw [List.take_of_length_le (by omega),List.take_of_length_le (by omega)]
        have hil:(x.outs.take i).length = i:=by rw [List.length_take];omega
        have hwn:IntKind.i64.wrap ((x.n:Int) - 1) = ((x.n - 1:Nat):Int):=by rw [w64 (by omega) (by omega)];omega
        have hres:x.cir = ⟨some none,List.replicate x.k a9d ++ [a3r (x.d0 % x.n),a3r (x.d1 % x.n)] ++ gg,some none,(List.range x.n).map a2y,some none,(x.outs.take i).map (·% x.n) ++ [x.n - 1]⟩:=by
         rw [hio,← hG];simp [CX.cir,CX.nodes,CX.dn,CX.names,CX.outN,hd]
        rw [hres]
        have hle1:x.n ≤ x.k + 2 + gg.length:=by omega
        have hle2:x.k + 2 + gg.length ≤ x.n:=by omega
        by_cases g1:i < x.outs.length
        ·have c1:(i:Int) < x.outs.length:=by omega
         have c2:¬ (i:Int) < 3:=by omega
         have hrm:i + 1 ≤ 1000000000:=by omega
         cases i with
         | zero=>omega
         | succ i=>
          have hrm:i + 1 + 1 ≤ 1000000000:=by omega
          (repeat first|simp only [ww]|(apply xa;simp +decide only [go_sem,hm,c1,c2,a3s,a7l,hrm,hwn,hil];rfl;kernel_rfl))
          (apply fqb;simp +decide only [go_sem,hm,a2s,a4b,a4a,a49,a1a,List.map_map,hil,a9d,a3r,a48,Cir.enc,a22,hle1,hle2,List.length_range,Nat.le_refl,a47]<;>rfl)
        ·have c1:¬ (i:Int) < x.outs.length:=by omega
         cases i with
         | zero=>
          (repeat first|simp only [ww]|(apply xa;simp +decide only [go_sem,hm,c1,a6c,b1l,hwn,hil];rfl;kernel_rfl))
          (apply fqb;simp +decide only [go_sem,hm,a2s,a4b,a4a,a49,a1a,List.map_map,hil,a9d,a3r,a48,Cir.enc,a22,hle1,hle2,List.length_range,Nat.le_refl,a47,List.take_zero]<;>rfl)
         | succ i=>
          have hrm:i + 1 + 1 ≤ 1000000000:=by omega
          (repeat first|simp only [ww]|(apply xa;simp +decide only [go_sem,hm,c1,a3s,a7l,hrm,hwn,hil];rfl;kernel_rfl))
          (apply fqb;simp +decide only [go_sem,hm,a2s,a4b,a4a,a49,a1a,List.map_map,hil,a9d,a3r,a48,Cir.enc,a22,hle1,hle2,List.length_range,Nat.le_refl,a47]<;>rfl)
theorem e69 (x:CX) (hx:x.ok) (hm:x.mem = false):sem L.env Mf 27 [.agg x.enc] [] = some (.agg x.cir.enc,[]):=by
 have h3:x.d < 3:=Nat.mod_lt _ (by omega)
 have h:x.d = 0 ∨ x.d = 1 ∨ x.d = 2:=by omega
 rcases h with h|h|h
 ·exact e19 x hx hm h
 ·exact e18 x hx hm h
 ·exact e17 x hx hm h
theorem c1f (c:Cir):a0d c.enc = []:=by simp only [go_sem,Cir.enc]
theorem d6e {d:Bool} (H:a06) (x:CX) (hx:x.ok) (hm:x.mem = false):a0e L.env d (sem L.env Mf) (.func (.func 27) [] []) [.agg x.enc] H = some (.agg x.cir.enc,H,[]):=
 a05 (by kernel_rfl) (by kernel_rfl) rfl (by simp only [go_sem]) (e69 x hx hm) (c1f _)
def a8s (x:CX):CX:={ x with mem:=false }
theorem c4a (x:CX) (hx:x.ok):sem L.env Mf 17 [.agg x.enc] [] = some (.agg (a8s x).cir.enc,[]):=by
 have hx':(a8s x).ok:=⟨hx.1,hx.2,hx.3,hx.4,hx.5,hx.6⟩
 have hc:=fun H=>d6e (d:=false) H (a8s x) hx' rfl
 generalize (a8s x).cir = c at hc
 simp only [go_sem,a8s] at hc
 simp only [Cir.enc] at hc
 have hfin:∀ l:List AV,a0d l = [] → l.length = 4 → a2a false 0 (.agg l) [] = some (.agg l,[]):=fun l h _=>c0e h
 (refine sv Tryz.f17 ?_;simp only [Tryz.f17,gS])
 (repeat first|simp only [ww]|(apply xa;simp +decide only [go_sem,hc];rfl;kernel_rfl))
 (apply fqb;simp +decide only [go_sem,Cir.enc]<;>rfl)
theorem b8t {d:Bool} (H:a06) (x:CX) (hx:x.ok):a0e L.env d (sem L.env Mf) (.func (.func 17) [] []) [.agg x.enc] H = some (.agg (a8s x).cir.enc,H,[]):=
 a05 (by kernel_rfl) (by kernel_rfl) rfl (by simp only [go_sem]) (c4a x hx) (c1f _)
end Go.MInst
