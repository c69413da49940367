/- Part of a proof. No condition. -/
import Derived.Test.YtllalbnibhofiaaGreatDoorZNe
import Derived.Test.YtllalbnibhofiaaGreatDoorZWo
import Derived.Test.YtllalbnibhofiaaGreatDoorPcB
import Derived.Test.YtllalbnibhofiaaGreatDoorAxF
set_option linter.unusedSimpArgs false
set_option linter.unusedVariables false
namespace Go.ZInst
open Go.Proofs Go.Ax Go.Pc
set_option maxRecDepth 100000
/-- An argument that c0q as these values: immutable, or the front of a block. -/
inductive RA (l:List Nat):AV → a04 → Prop
 | imm (r:Rep):RA l (sl r (l.map u8R)) []
 | blk (c:Option Nat) (rest:List (List AV)) (hf:FlatR (l.map u8R ++ rest)):RA l (.slice 0 0 l.length c) [some (.row 1 (l.map u8R ++ rest))]
theorem a2k (l:List Nat):FlatR (l.map u8R):=FlatR.map fun _=>rfl
theorem b8l {l:List Nat} {V:AV} {H:a04} (h:RA l V H):c03 L.env (a02 H) 58 V = some (.int .i64 l.length):=by
 cases h with
 | imm r=>simp +decide only [go_sem]
 | blk c rest hf=>simp +decide only [go_sem]
theorem b8m {l:List Nat} {V:AV} {H:a04} (h:RA l V H) {i v:Nat} (hi:l[i]? = some v):∃ p,a0z L.env (a02 H) 58 V (.int .i64 i) = some p ∧ a6h L.env (a02 H) 53 p = some (.int .u8 v):=by
 have hlt:=(List.getElem?_eq_some_iff.1 hi).1
 cases h with
 | imm r=>exact ⟨_,by simp +decide only [go_sem,hi,hlt]<;>rfl,by simp +decide only [go_sem,hi,hlt]⟩
 | blk c rest hf=>
  have hg:(l.map u8R ++ rest)[i]? = some [.int .u8 v]:=by rw [List.getElem?_append_left (by simpa using hlt),List.getElem?_map,hi];rfl
  have hl2:i < (l.map u8R ++ rest).length:=by simp;omega
  exact ⟨_,by simp +decide only [go_sem,hg,hlt,hl2]<;>rfl,by simp +decide only [go_sem,hg,hlt,hl2]⟩
theorem a1q {l:List Nat} {V v:AV} {H:a04} (h:RA l V H) (hv:refs v = []):a1v false H.length v H = some (v,H):=by
 cases h with
 | imm r=>exact a6b hv
 | blk c rest hf=>
  have h1:=fun π=>a0d π hf
  have hr:∀ π,ren π v = v:=fun π=>a1c π v hv
  simp +decide only [go_sem,a1v,a4f _ _ _ _ hv,h1]
theorem d63 {l:List Nat} {V:AV} {H:a04} (h:RA l V H) (b:Nat):a14 (a02 H b) = []:=by
 cases h with
 | imm r=>rfl
 | blk c rest hf=>
  cases b with
  | zero=>exact a0t hf
  | succ b=>rfl
theorem d4d {l:List Nat} {V:AV} {H:a04} (h:RA l V H):(∀ b ∈ refs V,b < H.length) ∧ (refs V).length ≤ 1:=by
 cases h with
 | imm r=>rw [a2i];exact ⟨fun b hb=>by simp at hb,by simp⟩
 | blk c rest hf=>exact ⟨fun b hb=>by simp [refs] at hb;subst hb;simp,by simp [refs]⟩
theorem b75 {l:List Nat} {V:AV} {H:a04} (h:RA l V H) {keep:List Nat} {F F':Frm} (hk:a29 keep F = F') (hF:a0l (F'.map (·.2)) = refs V ∨ a0l (F'.map (·.2)) = []):gcD H.length keep F H = some (F',H):=by
 obtain ⟨h1,h2⟩:=d4d h
 refine e1c hk ?_ ?_ (d63 h)
 ·rcases hF with e|e<;>rw [e]
  ·exact h1
  ·intro b hb;simp at hb
 ·rcases hF with e|e<;>rw [e]
  ·omega
  ·simp
/-- A call over such an argument. -/
theorem a63 {l:List Nat} {V:AV} {H:a04} (h:RA l V H) {d:Bool} {g:FuncId} {f7w post:List AV} {v:AV} (hx:L.env.ext g = false) (hf:(L.env.fn g).isSome = true) (hp:a0l f7w = []) (hq:a0l post = []) (hv:refs v = [])
 (hr:∀ V H,RA l V H → f7x L.env Mf g (f7w ++ V :: post) H = some (v,H)):a0e L.env d (f7x L.env Mf) (.func (.func g) [] []) (f7w ++ V :: post) H = some (v,H,refs V):=by
 have hr:=hr V H h
 cases h with
 | imm r=>
  rw [a2i]
  exact a03 hx hf rfl (by simp only [List.nil_append,List.append_nil,b1i,a08,a2i,hp,hq]) (by simpa using hr) hv
 | blk c rest hfl=>
  refine a2g (b:=0) (fs:=[]) (cs:=[]) (args:=f7w ++ .slice 0 0 l.length c :: post) hx hf (by simp) rfl (a0t hfl) (FlatO.row hfl) (by simp only [b1i,a08,hp,hq,b0z,List.nil_append,List.append_nil]) (args':=f7w ++ .slice 0 0 l.length c :: post) ?_ hr hv
  rw [List.map_append,List.map_cons,a2b]
  have e:∀ l:List AV,a0l l = [] → l.map (ren (a9o [0])) = l:=fun l hl=>a46 _ hl
  rw [e _ hp,e _ hq]
/-! ### scalars -/
theorem c7d (v:Nat):f7x L.env Mf 129 [.int .u8 v] [] = some (.bool (decide (v ≤ 1)),[]):=by
 have e:decide ((v:Int) ≤ 1) = decide (v ≤ 1):=by rw [decide_eq_decide];omega
 (refine sv Tryz.f129 ?_;simp only [Tryz.f129,gS])
 (repeat first|simp only [ww]|(apply xa;simp +decide only [go_sem,e];rfl;kernel_rfl))
 (apply f6w;simp +decide only [go_sem]<;>rfl)
theorem b3e {d:Bool} (H:a04) (v:Nat):a0e L.env d (f7x L.env Mf) (.func (.func 129) [] []) [.int .u8 v] H = some (.bool (decide (v ≤ 1)),H,[]):=a03 (by kernel_rfl) (by kernel_rfl) rfl rfl (c7d v) rfl
theorem d1i (v:Nat):f7x L.env Mf 107 [.int .u8 v] [] = some (.int .u8 (a4x v:Nat),[]):=by
 have e:c9n (.int .u8 v) [.int .u8 2] = some (.int .u8 ((a4x v:Nat):Int)):=by
  simp only [c9n,a4x]
  by_cases h:(2:Int) < v
  ·rw [if_pos h];congr 2;omega
  ·rw [if_neg h];congr 2;omega
 generalize a4x v = w at e
 (refine sv Tryz.f107 ?_;simp only [Tryz.f107,gS])
 (repeat first|simp only [ww]|(apply xa;simp +decide only [go_sem,e];rfl;kernel_rfl))
 (apply f6w;simp +decide only [go_sem]<;>rfl)
theorem a78 {d:Bool} (H:a04) (v:Nat):a0e L.env d (f7x L.env Mf) (.func (.func 107) [] []) [.int .u8 v] H = some (.int .u8 (a4x v:Nat),H,[]):=a03 (by kernel_rfl) (by kernel_rfl) rfl rfl (d1i v) rfl
theorem d6m (v:Nat):f7x L.env Mf 108 [.int .u8 v] [] = some (.int .u8 (b2f v:Nat),[]):=by
 have hk:=fun H=>b3e (d:=false) H v
 by_cases h:v ≤ 1
 ·have hw:IntKind.u8.wrap (1 - (v:Int)) = ((1 - v:Nat):Int):=by rw [IntWalk.u8_in _ ⟨by omega,by omega⟩];omega
  rw [show b2f v = 1 - v by simp [b2f,h]]
  (refine sv Tryz.f108 ?_;simp only [Tryz.f108,gS])
  (repeat first|simp only [ww]|(apply xa;simp +decide only [go_sem,hk,h,hw];rfl;kernel_rfl))
  (apply f6w;simp +decide only [go_sem]<;>rfl)
 ·rw [show b2f v = 2 by simp [b2f,h]]
  (refine sv Tryz.f108 ?_;simp only [Tryz.f108,gS])
  (repeat first|simp only [ww]|(apply xa;simp +decide only [go_sem,hk,h];rfl;kernel_rfl))
  (apply f6w;simp +decide only [go_sem]<;>rfl)
theorem c7b {d:Bool} (H:a04) (v:Nat):a0e L.env d (f7x L.env Mf) (.func (.func 108) [] []) [.int .u8 v] H = some (.int .u8 (b2f v:Nat),H,[]):=a03 (by kernel_rfl) (by kernel_rfl) rfl rfl (d6m v) rfl
theorem d6n (s a b:Nat):f7x L.env Mf 112 [.int .u8 s,.int .u8 a,.int .u8 b] [] = some (.int .u8 (b8u s a b:Nat),[]):=by
 have ha:=fun H=>a78 (d:=false) H a
 have hb:=fun H=>a78 (d:=false) H b
 by_cases h0:s = 0
 ·have c0:(s:Int) = 0:=by omega
  rw [show b8u s a b = a4x a by simp [b8u,h0]]
  (refine sv Tryz.f112 ?_;simp only [Tryz.f112,gS])
  (repeat first|simp only [ww]|(apply xa;simp +decide only [go_sem,ha,c0];rfl;kernel_rfl))
  (apply f6w;simp +decide only [go_sem]<;>rfl)
 have c0:¬ (s:Int) = 0:=by omega
 by_cases h1:s = 1
 ·have c1:(s:Int) = 1:=by omega
  rw [show b8u s a b = a4x b by simp [b8u,h1]]
  (refine sv Tryz.f112 ?_;simp only [Tryz.f112,gS])
  (repeat first|simp only [ww]|(apply xa;simp +decide only [go_sem,hb,c1];rfl;kernel_rfl))
  (apply f6w;simp +decide only [go_sem]<;>rfl)
 have c1:¬ (s:Int) = 1:=by omega
 by_cases h2:a = b
 ·have c2:(a:Int) = b:=by omega
  rw [show b8u s a b = a4x a by simp [b8u,h0,h1,h2]]
  (refine sv Tryz.f112 ?_;simp only [Tryz.f112,gS])
  (repeat first|simp only [ww]|(apply xa;simp +decide only [go_sem,ha,c0,c1,c2];rfl;kernel_rfl))
  subst h2
  (repeat first|simp only [ww]|(apply xa;simp +decide only [go_sem,ha];rfl;kernel_rfl))
  (apply f6w;simp +decide only [go_sem]<;>rfl)
 ·have c2:¬ (a:Int) = b:=by omega
  rw [show b8u s a b = 2 by simp [b8u,h0,h1,h2]]
  (refine sv Tryz.f112 ?_;simp only [Tryz.f112,gS])
  (repeat first|simp only [ww]|(apply xa;simp +decide only [go_sem,c0,c1,c2];rfl;kernel_rfl))
  (apply f6w;simp +decide only [go_sem]<;>rfl)
theorem c7c {d:Bool} (H:a04) (s a b:Nat):a0e L.env d (f7x L.env Mf) (.func (.func 112) [] []) [.int .u8 s,.int .u8 a,.int .u8 b] H = some (.int .u8 (b8u s a b:Nat),H,[]):=a03 (by kernel_rfl) (by kernel_rfl) rfl rfl (d6n s a b) rfl
theorem d6l (e v:Nat):f7x L.env Mf 113 [.int .u8 e,.int .u8 v] [] = some (.int .u8 (c0v e v:Nat),[]):=by
 have ha:=fun H=>a78 (d:=false) H v
 by_cases h0:e = 0
 ·have c0:(e:Int) = 0:=by omega
  rw [show c0v e v = 3 by simp [c0v,h0]]
  (refine sv Tryz.f113 ?_;simp only [Tryz.f113,gS])
  (repeat first|simp only [ww]|(apply xa;simp +decide only [go_sem,c0];rfl;kernel_rfl))
  (apply f6w;simp +decide only [go_sem]<;>rfl)
 have c0:¬ (e:Int) = 0:=by omega
 by_cases h1:e = 1
 ·have c1:(e:Int) = 1:=by omega
  rw [show c0v e v = a4x v by simp [c0v,h1]]
  (refine sv Tryz.f113 ?_;simp only [Tryz.f113,gS])
  (repeat first|simp only [ww]|(apply xa;simp +decide only [go_sem,ha,c1];rfl;kernel_rfl))
  (apply f6w;simp +decide only [go_sem]<;>rfl)
 have c1:¬ (e:Int) = 1:=by omega
 rw [show c0v e v = 2 by simp [c0v,h0,h1]]
 (refine sv Tryz.f113 ?_;simp only [Tryz.f113,gS])
 (repeat first|simp only [ww]|(apply xa;simp +decide only [go_sem,c0,c1];rfl;kernel_rfl))
 (apply f6w;simp +decide only [go_sem]<;>rfl)
theorem c76 {d:Bool} (H:a04) (e v:Nat):a0e L.env d (f7x L.env Mf) (.func (.func 113) [] []) [.int .u8 e,.int .u8 v] H = some (.int .u8 (c0v e v:Nat),H,[]):=a03 (by kernel_rfl) (by kernel_rfl) rfl rfl (d6l e v) rfl
/-! ### lists -/
theorem c4v (l:List Nat) (V:AV) (H:a04) (hV:RA l V H) (hl:l.length < 1000000) (low high:Nat):f7x L.env Mf 130 [V,.int .u8 low,.int .u8 high] H = some (.int .u8 (a6r low high high l:Nat),H):=by
 have hlen:=b8l hV
 have hlow:=d4d hV
 suffices hs:∃ r:AV × a04,(r = (.int .u8 (a6r low high high l:Nat),H)) ∧ f7x L.env Mf 130 [V,.int .u8 low,.int .u8 high] H = some r by
  obtain ⟨r,rfl,h3⟩:=hs
  exact h3
 (refine svE Tryz.f130 ?_;simp only [Tryz.f130,gS])
 (repeat first|simp only [ww]|(apply xa;simp +decide only [go_sem,hlen];rfl;kernel_rfl))
 refine a3i kp130_0 (fun n F H1=>∃ (i out:Nat),n = l.length - i ∧ i ≤ l.length ∧ F = [(1,.int .u8 low),(2,.int .u8 high),(7,.int .u8 out),(11,V),(12,.int .i64 l.length),(13,.int .i64 i)] ∧ H1 = H ∧ a6r low high out (l.drop i) = a6r low high high l) l.length ?_ ?_
 ·exact ⟨_,_,b75 hV (by simp +decide only [go_sem]<;>rfl) (.inl (by simp +decide only [go_sem])),0,high,rfl,Nat.zero_le _,rfl,rfl,rfl⟩
 ·rintro n F H1 ⟨i,out,rfl,hi,rfl,rfl,hout⟩
  by_cases hlt:i < l.length
  ·obtain ⟨v,hv⟩:∃ v,l[i]? = some v:=⟨_,List.getElem?_eq_getElem hlt⟩
   obtain ⟨p,hp1,hp2⟩:=b8m hV hv
   have hd:l.drop i = v :: l.drop (i + 1):=by rw [← List.getElem_cons_drop hlt,(List.getElem?_eq_some_iff.1 hv).2]
   rw [hd] at hout
   have c1:(i:Int) < l.length:=by omega
   have hw:=wI1 (n:=i) (by omega)
   by_cases h1:v = low
   ·have c2:(v:Int) = low:=by omega
    simp only [a6r,h1,if_true] at hout
    (repeat first|simp only [ww]|(apply xa;simp +decide only [go_sem,c1,hp1,hp2,c2];rfl;kernel_rfl))
    refine a2t (vs:=[.int .u8 low]) (r:=(_,_)) (by simp +decide only [go_sem]) (a1q hV rfl) ?_
    rw [← hout];rfl
   ·have c2:¬ (v:Int) = low:=by omega
    by_cases h2:v = high
    ·subst h2
     simp only [a6r,if_neg h1,if_true] at hout
     (repeat first|simp only [ww]|(apply xa;simp +decide only [go_sem,c1,hp1,hp2,c2,hw];rfl;kernel_rfl))
     refine a16 (l.length - (i + 1)) (by omega) ⟨_,_,b75 hV (by simp +decide only [go_sem]<;>rfl) (.inl (by simp +decide only [go_sem])),i + 1,out,rfl,hlt,rfl,rfl,hout⟩
    ·have c3:¬ (v:Int) = high:=by omega
     simp only [a6r,if_neg h1,if_neg h2] at hout
     (repeat first|simp only [ww]|(apply xa;simp +decide only [go_sem,c1,hp1,hp2,c2,c3,hw];rfl;kernel_rfl))
     refine a16 (l.length - (i + 1)) (by omega) ⟨_,_,b75 hV (by simp +decide only [go_sem]<;>rfl) (.inl (by simp +decide only [go_sem])),i + 1,2,rfl,hlt,rfl,rfl,hout⟩
  ·obtain rfl:i = l.length:=by omega
   have c1:¬ (l.length:Int) < l.length:=by omega
   rw [List.drop_length] at hout
   simp only [a6r] at hout
   (repeat first|simp only [ww]|(apply xa;simp +decide only [go_sem,c1];rfl;kernel_rfl))
   refine a69 (vs:=[.int .u8 out]) (r:=(_,_)) (by simp +decide only [go_sem]) (a1q hV rfl) ?_
   rw [← hout];rfl
theorem b1r {l:List Nat} {V:AV} {H:a04} (hV:RA l V H) (hl:l.length < 1000000) {d:Bool} (low high:Nat) {a b:Int} (ha:a = low) (hb:b = high):a0e L.env d (f7x L.env Mf) (.func (.func 130) [] []) [V,.int .u8 a,.int .u8 b] H = some (.int .u8 (a6r low high high l:Nat),H,refs V):=by
 subst ha;subst hb
 exact a63 hV (f7w:=[]) (post:=[.int .u8 low,.int .u8 high]) (by kernel_rfl) (by kernel_rfl) rfl rfl rfl (fun V H hV=>c4v l V H hV hl low high)
theorem d6t (l:List Nat) (V:AV) (H:a04) (hV:RA l V H) (hl:l.length < 1000000):f7x L.env Mf 109 [V] H = some (.int .u8 (a6r 0 1 1 l:Nat),H):=by
 have hc:=b1r hV hl (d:=false) 0 1 (a:=0) (b:=1) rfl rfl
 generalize a6r 0 1 1 l = w at hc
 (refine sv Tryz.f109 ?_;simp only [Tryz.f109,gS])
 (repeat first|simp only [ww]|(apply xa;simp +decide only [go_sem,hc];rfl;kernel_rfl))
 refine a7b (vs:=[.int .u8 w]) (by simp +decide only [go_sem]) (a1q hV rfl)
theorem c7q {l:List Nat} {V:AV} {H:a04} (hV:RA l V H) (hl:l.length < 1000000) {d:Bool}:a0e L.env d (f7x L.env Mf) (.func (.func 109) [] []) [V] H = some (.int .u8 (a6r 0 1 1 l:Nat),H,refs V):=
 a63 hV (f7w:=[]) (post:=[]) (by kernel_rfl) (by kernel_rfl) rfl rfl rfl (fun V H hV=>d6t l V H hV hl)
theorem e11 (l:List Nat) (V:AV) (H:a04) (hV:RA l V H) (hl:l.length < 1000000):f7x L.env Mf 110 [V] H = some (.int .u8 (a6r 1 0 0 l:Nat),H):=by
 have hc:=b1r hV hl (d:=false) 1 0 (a:=1) (b:=0) rfl rfl
 generalize a6r 1 0 0 l = w at hc
 (refine sv Tryz.f110 ?_;simp only [Tryz.f110,gS])
 (repeat first|simp only [ww]|(apply xa;simp +decide only [go_sem,hc];rfl;kernel_rfl))
 refine a7b (vs:=[.int .u8 w]) (by simp +decide only [go_sem]) (a1q hV rfl)
theorem d1j {l:List Nat} {V:AV} {H:a04} (hV:RA l V H) (hl:l.length < 1000000) {d:Bool}:a0e L.env d (f7x L.env Mf) (.func (.func 110) [] []) [V] H = some (.int .u8 (a6r 1 0 0 l:Nat),H,refs V):=
 a63 hV (f7w:=[]) (post:=[]) (by kernel_rfl) (by kernel_rfl) rfl rfl rfl (fun V H hV=>e11 l V H hV hl)
theorem e4e {a b:Nat} (ha:a ≤ 1) (hb:b ≤ 1):e5n .u8 (a:Int) (b:Int) = ((a ^^^ b:Nat):Int) ∧ a ^^^ b ≤ 1:=by
 have ha:a = 0 ∨ a = 1:=by omega
 have hb:b = 0 ∨ b = 1:=by omega
 rcases ha with rfl|rfl<;>rcases hb with rfl|rfl<;>exact ⟨by decide,by decide⟩
theorem d6k (l:List Nat) (V:AV) (H:a04) (hV:RA l V H) (hl:l.length < 1000000):f7x L.env Mf 111 [V] H = some (.int .u8 (b58 0 l:Nat),H):=by
 have hlen:=b8l hV
 suffices hs:∃ r:AV × a04,(r = (.int .u8 (b58 0 l:Nat),H)) ∧ f7x L.env Mf 111 [V] H = some r by
  obtain ⟨r,rfl,h3⟩:=hs
  exact h3
 (refine svE Tryz.f111 ?_;simp only [Tryz.f111,gS])
 (repeat first|simp only [ww]|(apply xa;simp +decide only [go_sem,hlen];rfl;kernel_rfl))
 refine a3i kp111_0 (fun n F H1=>∃ (i out:Nat),n = l.length - i ∧ i ≤ l.length ∧ out ≤ 1 ∧ F = [(3,.int .u8 out),(6,V),(7,.int .i64 l.length),(8,.int .i64 i)] ∧ H1 = H ∧ b58 out (l.drop i) = b58 0 l) l.length ?_ ?_
 ·exact ⟨_,_,b75 hV (by simp +decide only [go_sem]<;>rfl) (.inl (by simp +decide only [go_sem])),0,0,rfl,Nat.zero_le _,by omega,rfl,rfl,rfl⟩
 ·rintro n F H1 ⟨i,out,rfl,hi,ho,rfl,rfl,hout⟩
  by_cases hlt:i < l.length
  ·obtain ⟨v,hv⟩:∃ v,l[i]? = some v:=⟨_,List.getElem?_eq_getElem hlt⟩
   obtain ⟨p,hp1,hp2⟩:=b8m hV hv
   have hd:l.drop i = v :: l.drop (i + 1):=by rw [← List.getElem_cons_drop hlt,(List.getElem?_eq_some_iff.1 hv).2]
   rw [hd] at hout
   have c1:(i:Int) < l.length:=by omega
   have hw:=wI1 (n:=i) (by omega)
   have hk:=fun H=>b3e (d:=false) H v
   by_cases h1:v ≤ 1
   ·obtain ⟨hx,hx1⟩:=e4e ho h1
    simp only [b58,if_pos h1] at hout
    (repeat first|simp only [ww]|(apply xa;simp +decide only [go_sem,c1,hp1,hp2,hk,h1,hx,hw];rfl;kernel_rfl))
    refine a16 (l.length - (i + 1)) (by omega) ⟨_,_,b75 hV (by simp +decide only [go_sem]<;>rfl) (.inl (by simp +decide only [go_sem])),i + 1,out ^^^ v,rfl,hlt,hx1,rfl,rfl,hout⟩
   ·simp only [b58,if_neg h1] at hout
    (repeat first|simp only [ww]|(apply xa;simp +decide only [go_sem,c1,hp1,hp2,hk,h1];rfl;kernel_rfl))
    refine a2t (vs:=[.int .u8 2]) (r:=(_,_)) (by simp +decide only [go_sem]) (a1q hV rfl) ?_
    rw [← hout];rfl
  ·obtain rfl:i = l.length:=by omega
   have c1:¬ (l.length:Int) < l.length:=by omega
   rw [List.drop_length] at hout
   simp only [b58] at hout
   (repeat first|simp only [ww]|(apply xa;simp +decide only [go_sem,c1];rfl;kernel_rfl))
   refine a69 (vs:=[.int .u8 out]) (r:=(_,_)) (by simp +decide only [go_sem]) (a1q hV rfl) ?_
   rw [← hout];rfl
theorem c75 {l:List Nat} {V:AV} {H:a04} (hV:RA l V H) (hl:l.length < 1000000) {d:Bool}:a0e L.env d (f7x L.env Mf) (.func (.func 111) [] []) [V] H = some (.int .u8 (b58 0 l:Nat),H,refs V):=
 a63 hV (f7w:=[]) (post:=[]) (by kernel_rfl) (by kernel_rfl) rfl rfl rfl (fun V H hV=>d6k l V H hV hl)
set_option maxHeartbeats 200000000
open Go.Proofs Go.Ax Go.Pc
set_option maxRecDepth 100000
def b51 (p:Nat → Bool) (l:List Nat):Int:=match l.findIdx? p with
 | some i=>i
 | none=>-1
theorem c2h {p:Nat → Bool} {l:List Nat} {i v:Nat} (hv:l[i]? = some v) (hp:p v = true) (hb:∀ (j w:Nat),j < i → l[j]? = some w → p w = false):b51 p l = i:=by
 have hlt:=(List.getElem?_eq_some_iff.1 hv).1
 have:l.findIdx? p = some i:=by
  rw [List.findIdx?_eq_some_iff_getElem]
  refine ⟨hlt,by rw [(List.getElem?_eq_some_iff.1 hv).2];exact hp,fun j hj=>?_⟩
  have:=hb j _ hj (List.getElem?_eq_getElem (by omega))
  simp [this]
 unfold b51;rw [this]
theorem b96 {p:Nat → Bool} {l:List Nat} (hb:∀ (j w:Nat),j < l.length → l[j]? = some w → p w = false):b51 p l = -1:=by
 have:l.findIdx? p = none:=by
  rw [List.findIdx?_eq_none_iff]
  intro x hx
  obtain ⟨j,hj⟩:=List.mem_iff_getElem?.1 hx
  exact hb j x (List.getElem?_eq_some_iff.1 hj).1 hj
 unfold b51;rw [this]
theorem c81 (p:Nat → Bool) (l:List Nat):decide (0 ≤ b51 p l) = l.any p:=by
 unfold b51
 cases h:l.findIdx? p with
 | none=>
  have:=List.findIdx?_eq_none_iff.1 h
  have e:l.any p = false:=by rw [List.any_eq_false];intro x hx;simp [this x hx]
  rw [e];rfl
 | some i=>
  obtain ⟨hi,hp,_⟩:=List.findIdx?_eq_some_iff_getElem.1 h
  have e:l.any p = true:=List.any_eq_true.2 ⟨_,List.getElem_mem hi,hp⟩
  rw [e];simp
theorem d1l (l:List Nat) (V:AV) (H:a04) (hV:RA l V H) (hl:l.length < 1000000) (f:AV) (p:Nat → Bool) (hf0:refs f = []) (hf:∀ (d:Bool) (H:a04) (v:Nat),a0e L.env d (f7x L.env Mf) f [.int .u8 v] H = some (.bool (p v),H,[])) :
 f7x L.env Mf 120 [V,f] H = some (.int .i64 (b51 p l),H):=by
 have hlen:=b8l hV
 suffices hs:∃ r:AV × a04,(r = (.int .i64 (b51 p l),H)) ∧ f7x L.env Mf 120 [V,f] H = some r by
  obtain ⟨r,rfl,h3⟩:=hs
  exact h3
 (refine svE Tryz.f120 ?_;simp only [Tryz.f120,gS])
 (repeat first|simp only [ww]|(apply xa;simp +decide only [go_sem,hlen];rfl;kernel_rfl))
 refine a3i kp120_0 (fun n F H1=>∃ (i:Nat),n = l.length - i ∧ i ≤ l.length ∧ F = [(0,V),(1,f),(7,.int .i64 l.length),(8,.int .i64 i)] ∧ H1 = H ∧ ∀ (j w:Nat),j < i → l[j]? = some w → p w = false) l.length ?_ ?_
 ·exact ⟨_,_,b75 hV (by simp +decide only [go_sem]<;>rfl) (.inl (by simp +decide only [go_sem,hf0])),0,rfl,Nat.zero_le _,rfl,rfl,fun j w hj=>by omega⟩
 ·rintro n F H1 ⟨i,rfl,hi,rfl,rfl,hb⟩
  by_cases hlt:i < l.length
  ·obtain ⟨v,hv⟩:∃ v,l[i]? = some v:=⟨_,List.getElem?_eq_getElem hlt⟩
   obtain ⟨q,hp1,hp2⟩:=b8m hV hv
   have c1:(i:Int) < l.length:=by omega
   have hw:=wI1 (n:=i) (by omega)
   have hc:=fun d H=>hf d H v
   cases hpv:p v with
   | true=>
    rw [hpv] at hc
    (repeat first|simp only [ww]|(apply xa;simp +decide only [go_sem,c1,hp1,hp2,hc];rfl;kernel_rfl))
    refine a2t (vs:=[.int .i64 i]) (r:=(_,_)) (by simp +decide only [go_sem]) (a1q hV rfl) ?_
    rw [c2h hv hpv hb];rfl
   | false=>
    rw [hpv] at hc
    (repeat first|simp only [ww]|(apply xa;simp +decide only [go_sem,c1,hp1,hp2,hc,hw];rfl;kernel_rfl))
    refine a16 (l.length - (i + 1)) (by omega) ⟨_,_,b75 hV (by simp +decide only [go_sem]<;>rfl) (.inl (by simp +decide only [go_sem,hf0])),i + 1,rfl,hlt,rfl,rfl,fun j w hj hjw=>?_⟩
    by_cases hji:j = i
    ·subst hji;rw [hv] at hjw;cases hjw;exact hpv
    ·exact hb j w (by omega) hjw
  ·obtain rfl:i = l.length:=by omega
   have c1:¬ (l.length:Int) < l.length:=by omega
   (repeat first|simp only [ww]|(apply xa;simp +decide only [go_sem,c1];rfl;kernel_rfl))
   refine a2t (vs:=[.int .i64 (-1)]) (r:=(_,_)) (by simp +decide only [go_sem]) (a1q hV rfl) ?_
   rw [b96 hb];rfl
theorem b5z {l:List Nat} {V:AV} {H:a04} (hV:RA l V H) (hl:l.length < 1000000) {d:Bool} (f:AV) (p:Nat → Bool) (hf0:refs f = []) (hf:∀ (d:Bool) (H:a04) (v:Nat),a0e L.env d (f7x L.env Mf) f [.int .u8 v] H = some (.bool (p v),H,[])) :
 a0e L.env d (f7x L.env Mf) (.func (.func 120) [] []) [V,f] H = some (.int .i64 (b51 p l),H,refs V):=
 a63 hV (f7w:=[]) (post:=[f]) (by kernel_rfl) (by kernel_rfl) rfl (by simp only [a08,a1z,hf0,List.append_nil]) rfl (fun V H hV=>d1l l V H hV hl f p hf0 hf)
theorem c7i (l:List Nat) (V:AV) (H:a04) (hV:RA l V H) (hl:l.length < 1000000) (f:AV) (p:Nat → Bool) (hf0:refs f = []) (hf:∀ (d:Bool) (H:a04) (v:Nat),a0e L.env d (f7x L.env Mf) f [.int .u8 v] H = some (.bool (p v),H,[])) :
 f7x L.env Mf 99 [V,f] H = some (.bool (l.any p),H):=by
 have hc:=fun d=>b5z hV hl (d:=d) f p hf0 hf
 have he:=c81 p l
 generalize b51 p l = x at hc he
 rw [← he]
 (refine sv Tryz.f99 ?_;simp only [Tryz.f99,gS])
 (repeat first|simp only [ww]|(apply xa;simp +decide only [go_sem,hc];rfl;kernel_rfl))
 refine a7b (vs:=[.bool _]) (by simp +decide only [go_sem]<;>rfl) (a1q hV rfl)
theorem c12 {l:List Nat} {V:AV} {H:a04} (hV:RA l V H) (hl:l.length < 1000000) {d:Bool} (f:AV) (p:Nat → Bool) (hf0:refs f = []) (hf:∀ (d:Bool) (H:a04) (v:Nat),a0e L.env d (f7x L.env Mf) f [.int .u8 v] H = some (.bool (p v),H,[])) :
 a0e L.env d (f7x L.env Mf) (.func (.func 99) [] []) [V,f] H = some (.bool (l.any p),H,refs V):=
 a63 hV (f7w:=[]) (post:=[f]) (by kernel_rfl) (by kernel_rfl) rfl (by simp only [a08,a1z,hf0,List.append_nil]) rfl (fun V H hV=>c7i l V H hV hl f p hf0 hf)
theorem d6p (l:List Nat) (V:AV) (H:a04) (hV:RA l V H) (hl:l.length < 1000000) (w:Nat):f7x L.env Mf 146 [V,.int .u8 w] H = some (.int .i64 (b51 (fun v=>decide (w = v)) l),H):=by
 have hlen:=b8l hV
 suffices hs:∃ r:AV × a04,(r = (.int .i64 (b51 (fun v=>decide (w = v)) l),H)) ∧ f7x L.env Mf 146 [V,.int .u8 w] H = some r by
  obtain ⟨r,rfl,h3⟩:=hs
  exact h3
 (refine svE Tryz.f146 ?_;simp only [Tryz.f146,gS])
 (repeat first|simp only [ww]|(apply xa;simp +decide only [go_sem,hlen];rfl;kernel_rfl))
 refine a3i kp146_0 (fun n F H1=>∃ (i:Nat),n = l.length - i ∧ i ≤ l.length ∧ F = [(0,V),(1,.int .u8 w),(7,.int .i64 l.length),(8,.int .i64 i)] ∧ H1 = H ∧ ∀ (j v:Nat),j < i → l[j]? = some v → decide (w = v) = false) l.length ?_ ?_
 ·exact ⟨_,_,b75 hV (by simp +decide only [go_sem]<;>rfl) (.inl (by simp +decide only [go_sem])),0,rfl,Nat.zero_le _,rfl,rfl,fun j w hj=>by omega⟩
 ·rintro n F H1 ⟨i,rfl,hi,rfl,rfl,hb⟩
  by_cases hlt:i < l.length
  ·obtain ⟨v,hv⟩:∃ v,l[i]? = some v:=⟨_,List.getElem?_eq_getElem hlt⟩
   obtain ⟨q,hp1,hp2⟩:=b8m hV hv
   have c1:(i:Int) < l.length:=by omega
   have hw:=wI1 (n:=i) (by omega)
   by_cases hwv:w = v
   ·subst hwv
    (repeat first|simp only [ww]|(apply xa;simp +decide only [go_sem,c1,hp1,hp2];rfl;kernel_rfl))
    refine a2t (vs:=[.int .i64 i]) (r:=(_,_)) (by simp +decide only [go_sem]) (a1q hV rfl) ?_
    rw [c2h hv (by simp) hb];rfl
   ·have c2:¬ (w:Int) = v:=by omega
    (repeat first|simp only [ww]|(apply xa;simp +decide only [go_sem,c1,hp1,hp2,c2,hw];rfl;kernel_rfl))
    refine a16 (l.length - (i + 1)) (by omega) ⟨_,_,b75 hV (by simp +decide only [go_sem]<;>rfl) (.inl (by simp +decide only [go_sem])),i + 1,rfl,hlt,rfl,rfl,fun j u hj hju=>?_⟩
    by_cases hji:j = i
    ·subst hji;rw [hv] at hju;cases hju;simpa using hwv
    ·exact hb j u (by omega) hju
  ·obtain rfl:i = l.length:=by omega
   have c1:¬ (l.length:Int) < l.length:=by omega
   (repeat first|simp only [ww]|(apply xa;simp +decide only [go_sem,c1];rfl;kernel_rfl))
   refine a2t (vs:=[.int .i64 (-1)]) (r:=(_,_)) (by simp +decide only [go_sem]) (a1q hV rfl) ?_
   rw [b96 hb];rfl
theorem c7f {l:List Nat} {V:AV} {H:a04} (hV:RA l V H) (hl:l.length < 1000000) {d:Bool} (w:Nat):a0e L.env d (f7x L.env Mf) (.func (.func 146) [] []) [V,.int .u8 w] H = some (.int .i64 (b51 (fun v=>decide (w = v)) l),H,refs V):=
 a63 hV (f7w:=[]) (post:=[.int .u8 w]) (by kernel_rfl) (by kernel_rfl) rfl rfl rfl (fun V H hV=>d6p l V H hV hl w)
theorem d1m (l:List Nat) (V:AV) (H:a04) (hV:RA l V H) (hl:l.length < 1000000) (w:Nat):f7x L.env Mf 141 [V,.int .u8 w] H = some (.bool (decide (w ∈ l)),H):=by
 have hc:=fun d=>c7f hV hl (d:=d) w
 have he:=c81 (fun v=>decide (w = v)) l
 have hm:(l.any fun v=>decide (w = v)) = decide (w ∈ l):=by
  rw [Bool.eq_iff_iff,List.any_eq_true,decide_eq_true_eq]
  exact ⟨fun ⟨x,hx,h⟩=>by rw [of_decide_eq_true h];exact hx,fun h=>⟨w,h,by simp⟩⟩
 rw [hm] at he
 generalize b51 (fun v=>decide (w = v)) l = x at hc he
 rw [← he]
 (refine sv Tryz.f141 ?_;simp only [Tryz.f141,gS])
 (repeat first|simp only [ww]|(apply xa;simp +decide only [go_sem,hc];rfl;kernel_rfl))
 refine a7b (vs:=[.bool _]) (by simp +decide only [go_sem]<;>rfl) (a1q hV rfl)
theorem b60 {l:List Nat} {V:AV} {H:a04} (hV:RA l V H) (hl:l.length < 1000000) {d:Bool} (w:Nat) {a:Int} (ha:a = w):a0e L.env d (f7x L.env Mf) (.func (.func 141) [] []) [V,.int .u8 a] H = some (.bool (decide (w ∈ l)),H,refs V):=by
 subst ha
 exact a63 hV (f7w:=[]) (post:=[.int .u8 w]) (by kernel_rfl) (by kernel_rfl) rfl rfl rfl (fun V H hV=>d1m l V H hV hl w)
theorem d1n (l:List Nat) (V:AV) (H:a04) (hV:RA l V H) (hl:l.length < 1000000):f7x L.env Mf 133 [V] H = some (.bool (decide (0 ∈ l) && decide (1 ∈ l)),H):=by
 have h0:=fun d=>b60 hV hl (d:=d) 0 (a:=0) rfl
 have h1:=fun d=>b60 hV hl (d:=d) 1 (a:=1) rfl
 generalize decide (1 ∈ l) = y at h1
 cases hx:decide (0 ∈ l) with
 | true=>
  rw [hx] at h0
  (refine sv Tryz.f133 ?_;simp only [Tryz.f133,gS])
  (repeat first|simp only [ww]|(apply xa;simp +decide only [go_sem,h0,h1];rfl;kernel_rfl))
  refine a7b (vs:=[.bool y]) (by simp +decide only [go_sem]) (a1q hV rfl)
 | false=>
  rw [hx] at h0
  (refine sv Tryz.f133 ?_;simp only [Tryz.f133,gS])
  (repeat first|simp only [ww]|(apply xa;simp +decide only [go_sem,h0,h1];rfl;kernel_rfl))
  refine a7b (vs:=[.bool false]) (by simp +decide only [go_sem]) (a1q hV rfl)
theorem c4a {l:List Nat} {V:AV} {H:a04} (hV:RA l V H) (hl:l.length < 1000000) {d:Bool}:a0e L.env d (f7x L.env Mf) (.func (.func 133) [] []) [V] H = some (.bool (decide (0 ∈ l) && decide (1 ∈ l)),H,refs V):=
 a63 hV (f7w:=[]) (post:=[]) (by kernel_rfl) (by kernel_rfl) rfl rfl rfl (fun V H hV=>d1n l V H hV hl)
theorem b9p (v:Nat):f7x L.env Mf 74 [.int .u8 v] [] = some (.int .u8 (a25 v:Nat),[]):=by
 by_cases h:3 < v
 ·have c:(3:Int) < v:=by omega
  rw [show a25 v = 2 by simp [a25,h]]
  (refine sv Tryz.f74 ?_;simp only [Tryz.f74,gS])
  (repeat first|simp only [ww]|(apply xa;simp +decide only [go_sem,c];rfl;kernel_rfl))
  (apply f6w;simp +decide only [go_sem]<;>rfl)
 ·have c:¬ (3:Int) < v:=by omega
  rw [show a25 v = v by simp [a25,h]]
  (refine sv Tryz.f74 ?_;simp only [Tryz.f74,gS])
  (repeat first|simp only [ww]|(apply xa;simp +decide only [go_sem,c];rfl;kernel_rfl))
  (apply f6w;simp +decide only [go_sem]<;>rfl)
theorem d1p (v:Nat):f7x L.env Mf 131 [.int .u8 v] [] = some (.bool (decide (a25 v = 2)),[]):=by
 have hc:∀ (d:Bool) H,a0e L.env d (f7x L.env Mf) (.func (.func 74) [] []) [.int .u8 v] H = some (.int .u8 (a25 v:Nat),H,[]):=fun d H=>a03 (by kernel_rfl) (by kernel_rfl) rfl rfl (b9p v) rfl
 have e:decide (((a25 v:Nat):Int) = 2) = decide (a25 v = 2):=by rw [decide_eq_decide];omega
 generalize a25 v = w at hc e
 (refine sv Tryz.f131 ?_;simp only [Tryz.f131,gS])
 (repeat first|simp only [ww]|(apply xa;simp +decide only [go_sem,hc,e];rfl;kernel_rfl))
 (apply f6w;simp +decide only [go_sem]<;>rfl)
theorem d1o (v:Nat):f7x L.env Mf 132 [.int .u8 v] [] = some (.bool (decide (v ≠ 3)),[]):=by
 have e:(!decide ((v:Int) = 3)) = decide (v ≠ 3):=by
  by_cases h:v = 3
  ·subst h;rfl
  ·have:¬ (v:Int) = 3:=by omega
   simp [h,this]
 (refine sv Tryz.f132 ?_;simp only [Tryz.f132,gS])
 (repeat first|simp only [ww]|(apply xa;simp +decide only [go_sem,e];rfl;kernel_rfl))
 (apply f6w;simp +decide only [go_sem]<;>rfl)
theorem d6q (l:List Nat) (V:AV) (H:a04) (hV:RA l V H) (hl:l.length < 1000000):f7x L.env Mf 114 [V] H = some (.int .u8 (d4i l:Nat),H):=by
 have h1:∀ (d:Bool) (H:a04) (v:Nat),a0e L.env d (f7x L.env Mf) (.func (.func 131) [] []) [.int .u8 v] H = some (.bool (decide (a25 v = 2)),H,[]):=fun d H v=>a03 (by kernel_rfl) (by kernel_rfl) rfl rfl (d1p v) rfl
 have h2:∀ (d:Bool) (H:a04) (v:Nat),a0e L.env d (f7x L.env Mf) (.func (.func 132) [] []) [.int .u8 v] H = some (.bool (decide (v ≠ 3)),H,[]):=fun d H v=>a03 (by kernel_rfl) (by kernel_rfl) rfl rfl (d1o v) rfl
 have c1:=fun d=>b5z hV hl (d:=d) _ (fun v=>decide (v ≠ 3)) rfl h2
 have c2:=fun d=>c12 hV hl (d:=d) _ (fun v=>decide (a25 v = 2)) rfl h1
 have c3:=fun d=>c4a hV hl (d:=d)
 unfold d4i
 unfold b51 at c1
 cases hf:l.findIdx? (fun v=>decide (v ≠ 3)) with
 | none=>
  rw [hf] at c1
  dsimp only at c1 ⊢
  (refine sv Tryz.f114 ?_;simp only [Tryz.f114,gS])
  (repeat first|simp only [ww]|(apply xa;simp +decide only [go_sem,c1];rfl;kernel_rfl))
  refine a7b (vs:=[.int .u8 3]) (by simp +decide only [go_sem]) (a1q hV rfl)
 | some i=>
  rw [hf] at c1
  dsimp only at c1 ⊢
  have hi:=(List.findIdx?_eq_some_iff_getElem.1 hf).1
  obtain ⟨v,hv⟩:∃ v,l[i]? = some v:=⟨_,List.getElem?_eq_getElem hi⟩
  obtain ⟨q,hp1,hp2⟩:=b8m hV hv
  have hg:l.getD i 0 = v:=by rw [List.getD,hv];rfl
  have c0:¬ (i:Int) < 0:=by omega
  rw [hg]
  generalize (decide (0 ∈ l) && decide (1 ∈ l)) = x at c3 ⊢
  generalize (l.any fun v=>decide (a25 v = 2)) = y at c2 ⊢
  cases x with
  | true=>
   (refine sv Tryz.f114 ?_;simp only [Tryz.f114,gS])
   (repeat first|simp only [ww]|(apply xa;simp +decide only [go_sem,c1,c2,c3,c0];rfl;kernel_rfl))
   refine a7b (vs:=[.int .u8 2]) (by simp +decide only [go_sem]) (a1q hV rfl)
  | false=>cases y with
   | true=>
    (refine sv Tryz.f114 ?_;simp only [Tryz.f114,gS])
    (repeat first|simp only [ww]|(apply xa;simp +decide only [go_sem,c1,c2,c3,c0];rfl;kernel_rfl))
    refine a7b (vs:=[.int .u8 2]) (by simp +decide only [go_sem]) (a1q hV rfl)
   | false=>
    (refine sv Tryz.f114 ?_;simp only [Tryz.f114,gS])
    (repeat first|simp only [ww]|(apply xa;simp +decide only [go_sem,c1,c2,c3,c0,hp1,hp2];rfl;kernel_rfl))
    refine a7b (vs:=[.int .u8 v]) (by simp +decide only [go_sem]) (a1q hV rfl)
theorem c7k {l:List Nat} {V:AV} {H:a04} (hV:RA l V H) (hl:l.length < 1000000) {d:Bool}:a0e L.env d (f7x L.env Mf) (.func (.func 114) [] []) [V] H = some (.int .u8 (d4i l:Nat),H,refs V):=
 a63 hV (f7w:=[]) (post:=[]) (by kernel_rfl) (by kernel_rfl) rfl rfl rfl (fun V H hV=>d6q l V H hV hl)
theorem d4c {l:List Nat} {V:AV} {H:a04} (h:RA l V H):a0s V = [] ∨ a0s V = [0]:=by
 cases h with
 | imm r=>exact .inl (by simp only [go_sem])
 | blk c rest hf=>exact .inr rfl
theorem d62 {l:List Nat} {V:AV} {H:a04} (h:RA l V H) {i v:Nat} (hi:l[i]? = some v):∃ p,a0z L.env (a02 H) 58 V (.int .i64 i) = some p ∧ a6h L.env (a02 H) 53 p = some (.int .u8 v) ∧ a0s p = a0s V:=by
 have hlt:=(List.getElem?_eq_some_iff.1 hi).1
 cases h with
 | imm r=>exact ⟨_,by simp +decide only [go_sem,hi,hlt]<;>rfl,by simp +decide only [go_sem,hi,hlt],by simp +decide only [go_sem]⟩
 | blk c rest hf=>
  have hg:(l.map u8R ++ rest)[i]? = some [.int .u8 v]:=by rw [List.getElem?_append_left (by simpa using hlt),List.getElem?_map,hi];rfl
  have hl2:i < (l.map u8R ++ rest).length:=by simp;omega
  exact ⟨_,by simp +decide only [go_sem,hg,hlt,hl2]<;>rfl,by simp +decide only [go_sem,hg,hlt,hl2],by simp +decide only [go_sem]⟩
/-- A gate over values. -/
theorem b7i (k:Nat) (hk:k < 16) (l:List Nat) (V:AV) (H:a04) (hV:RA l V H) (hl:l.length < 1000000):f7x L.env Mf 86 [.int .u8 k,V] H = some (.int .u8 (a4k k l:Nat),H):=by
 have hf:=fun d H=>a8x (d:=d) H k hk
 have hlen:=b8l hV
 by_cases hlo:l.length < a1h k
 ·have c1:(l.length:Int) < a1h k:=by omega
  rw [show a4k k l = 2 by simp [a4k,hlo]]
  (refine sv Tryz.f86 ?_;simp only [Tryz.f86,gS])
  (repeat first|simp only [ww]|(apply xa;simp +decide only [go_sem,hf,c1,hlen];rfl;kernel_rfl))
  refine a7b (vs:=[.int .u8 2]) (by simp +decide only [go_sem]) (a1q hV rfl)
 have c1:¬ (l.length:Int) < a1h k:=by omega
 by_cases hhi:a1i k < l.length
 ·have c2:(a1i k:Int) < l.length:=by omega
  rw [show a4k k l = 2 by simp [a4k,hhi]]
  (refine sv Tryz.f86 ?_;simp only [Tryz.f86,gS])
  (repeat first|simp only [ww]|(apply xa;simp +decide only [go_sem,hf,c1,c2,hlen];rfl;kernel_rfl))
  refine a7b (vs:=[.int .u8 2]) (by simp +decide only [go_sem]) (a1q hV rfl)
 have c2:¬ (a1i k:Int) < l.length:=by omega
 rw [show a4k k l = a49 k l by unfold a4k;rw [if_neg (by omega)]]
 have lo:a1h k ≤ l.length:=by omega
 clear hlo hhi
 have g:∀ (i:Nat) (j:Int),j = i → i < a1h k → ∃ v p,l.getD i 2 = v ∧ a0z L.env (a02 H) 58 V (.int .i64 j) = some p ∧ a6h L.env (a02 H) 53 p = some (.int .u8 v) ∧ a0s p = a0s V:=by
  intro i j hj hi
  subst hj
  obtain ⟨v,hv⟩:∃ v,l[i]? = some v:=⟨_,List.getElem?_eq_getElem (by omega)⟩
  obtain ⟨p,h1,h2,h3⟩:=d62 hV hv
  exact ⟨v,p,by rw [List.getD,hv];rfl,h1,h2,h3⟩
 have ca:=fun (d:Bool)=>c7q hV hl (d:=d)
 have co:=fun (d:Bool)=>d1j hV hl (d:=d)
 have cx:=fun (d:Bool)=>c75 hV hl (d:=d)
 have cb:=fun (d:Bool)=>c7k hV hl (d:=d)
 have cn:=fun (d:Bool) (H:a04) (v:Nat)=>c7b (d:=d) H v
 have cr:=fun (d:Bool) (H:a04) (v:Nat)=>a78 (d:=d) H v
 have cm:=fun (d:Bool) (H:a04) (s a b:Nat)=>c7c (d:=d) H s a b
 have ct:=fun (d:Bool) (H:a04) (a b:Nat)=>c76 (d:=d) H a b
 have hkk:k = 0 ∨ k = 1 ∨ k = 2 ∨ k = 3 ∨ k = 4 ∨ k = 5 ∨ k = 6 ∨ k = 7 ∨ k = 8 ∨ k = 9 ∨ k = 10 ∨ k = 11 ∨ k = 12 ∨ k = 13 ∨ k = 14 ∨ k = 15:=by omega
 (refine sv Tryz.f86 ?_;simp only [Tryz.f86,gS])
 (repeat first|simp only [ww]|(apply xa;simp +decide only [go_sem,hf,c1,c2,hlen];rfl;kernel_rfl))
 rcases hkk with rfl|rfl|rfl|rfl|rfl|rfl|rfl|rfl|rfl|rfl|rfl|rfl|rfl|rfl|rfl|rfl
 ·rw [show a49 0 l = 2 from rfl]
  (repeat first|simp only [ww]|(apply xa;simp +decide only [go_sem];rfl;kernel_rfl))
  exact a7b (vs:=[.int .u8 _]) (by simp +decide only [go_sem]<;>rfl) (a1q hV rfl)
 ·rw [show a49 1 l = 0 from rfl]
  (repeat first|simp only [ww]|(apply xa;simp +decide only [go_sem];rfl;kernel_rfl))
  exact a7b (vs:=[.int .u8 _]) (by simp +decide only [go_sem]<;>rfl) (a1q hV rfl)
 ·rw [show a49 2 l = 1 from rfl]
  (repeat first|simp only [ww]|(apply xa;simp +decide only [go_sem];rfl;kernel_rfl))
  exact a7b (vs:=[.int .u8 _]) (by simp +decide only [go_sem]<;>rfl) (a1q hV rfl)
 ·obtain ⟨v0,p0,e0,a0,b0,t0⟩:=g 0 0 rfl (by decide)
  rw [show a49 3 l = a4x (l.getD 0 2) from rfl,e0]
  (repeat first|simp only [ww]|(apply xa;simp +decide only [go_sem,cr,a0,b0];rfl;kernel_rfl))
  exact a7b (vs:=[.int .u8 _]) (by simp +decide only [go_sem]<;>rfl) (a1q hV rfl)
 ·obtain ⟨v0,p0,e0,a0,b0,t0⟩:=g 0 0 rfl (by decide)
  rw [show a49 4 l = b2f (l.getD 0 2) from rfl,e0]
  (repeat first|simp only [ww]|(apply xa;simp +decide only [go_sem,cn,a0,b0];rfl;kernel_rfl))
  exact a7b (vs:=[.int .u8 _]) (by simp +decide only [go_sem]<;>rfl) (a1q hV rfl)
 ·rw [show a49 5 l = a6r 0 1 1 l from rfl]
  (repeat first|simp only [ww]|(apply xa;simp +decide only [go_sem,ca];rfl;kernel_rfl))
  exact a7b (vs:=[.int .u8 _]) (by simp +decide only [go_sem]<;>rfl) (a1q hV rfl)
 ·rw [show a49 6 l = b2f (a6r 0 1 1 l) from rfl]
  (repeat first|simp only [ww]|(apply xa;simp +decide only [go_sem,ca,cn];rfl;kernel_rfl))
  exact a7b (vs:=[.int .u8 _]) (by simp +decide only [go_sem]<;>rfl) (a1q hV rfl)
 ·rw [show a49 7 l = a6r 1 0 0 l from rfl]
  (repeat first|simp only [ww]|(apply xa;simp +decide only [go_sem,co];rfl;kernel_rfl))
  exact a7b (vs:=[.int .u8 _]) (by simp +decide only [go_sem]<;>rfl) (a1q hV rfl)
 ·rw [show a49 8 l = b2f (a6r 1 0 0 l) from rfl]
  (repeat first|simp only [ww]|(apply xa;simp +decide only [go_sem,co,cn];rfl;kernel_rfl))
  exact a7b (vs:=[.int .u8 _]) (by simp +decide only [go_sem]<;>rfl) (a1q hV rfl)
 ·rw [show a49 9 l = b58 0 l from rfl]
  (repeat first|simp only [ww]|(apply xa;simp +decide only [go_sem,cx];rfl;kernel_rfl))
  exact a7b (vs:=[.int .u8 _]) (by simp +decide only [go_sem]<;>rfl) (a1q hV rfl)
 ·rw [show a49 10 l = b2f (b58 0 l) from rfl]
  (repeat first|simp only [ww]|(apply xa;simp +decide only [go_sem,cx,cn];rfl;kernel_rfl))
  exact a7b (vs:=[.int .u8 _]) (by simp +decide only [go_sem]<;>rfl) (a1q hV rfl)
 ·obtain ⟨v0,p0,e0,a0,b0,t0⟩:=g 0 0 rfl (by decide)
  obtain ⟨v1,p1,e1,a1,b1,t1⟩:=g 1 1 rfl (by decide)
  obtain ⟨v2,p2,e2,a2,b2,t2⟩:=g 2 2 rfl (by decide)
  rw [show a49 11 l = b8u (l.getD 0 2) (l.getD 1 2) (l.getD 2 2) from rfl,e0,e1,e2]
  rcases d4c hV with htp|htp
  ·(repeat first|simp only [ww]|(apply xa;simp +decide only [go_sem,cm,a0,b0,a1,b1,a2,b2,t0,t1,t2,htp];rfl;kernel_rfl))
   exact a7b (vs:=[.int .u8 _]) (by simp +decide only [go_sem]<;>rfl) (a1q hV rfl)
  ·(repeat first|simp only [ww]|(apply xa;simp +decide only [go_sem,cm,a0,b0,a1,b1,a2,b2,t0,t1,t2,htp];rfl;kernel_rfl))
   exact a7b (vs:=[.int .u8 _]) (by simp +decide only [go_sem]<;>rfl) (a1q hV rfl)
 ·obtain ⟨v0,p0,e0,a0,b0,t0⟩:=g 0 0 rfl (by decide)
  obtain ⟨v1,p1,e1,a1,b1,t1⟩:=g 1 1 rfl (by decide)
  rw [show a49 12 l = c0v (l.getD 0 2) (l.getD 1 2) from rfl,e0,e1]
  rcases d4c hV with htp|htp
  ·(repeat first|simp only [ww]|(apply xa;simp +decide only [go_sem,ct,a0,b0,a1,b1,t0,t1,htp];rfl;kernel_rfl))
   exact a7b (vs:=[.int .u8 _]) (by simp +decide only [go_sem]<;>rfl) (a1q hV rfl)
  ·(repeat first|simp only [ww]|(apply xa;simp +decide only [go_sem,ct,a0,b0,a1,b1,t0,t1,htp];rfl;kernel_rfl))
   exact a7b (vs:=[.int .u8 _]) (by simp +decide only [go_sem]<;>rfl) (a1q hV rfl)
 ·rw [show a49 13 l = d4i l from rfl]
  (repeat first|simp only [ww]|(apply xa;simp +decide only [go_sem,cb];rfl;kernel_rfl))
  exact a7b (vs:=[.int .u8 _]) (by simp +decide only [go_sem]<;>rfl) (a1q hV rfl)
 ·rw [show a49 14 l = 2 from rfl]
  (repeat first|simp only [ww]|(apply xa;simp +decide only [go_sem];rfl;kernel_rfl))
  exact a7b (vs:=[.int .u8 _]) (by simp +decide only [go_sem]<;>rfl) (a1q hV rfl)
 ·rw [show a49 15 l = 2 from rfl]
  (repeat first|simp only [ww]|(apply xa;simp +decide only [go_sem];rfl;kernel_rfl))
  exact a7b (vs:=[.int .u8 _]) (by simp +decide only [go_sem]<;>rfl) (a1q hV rfl)
theorem c49 {l:List Nat} {V:AV} {H:a04} (hV:RA l V H) (hl:l.length < 1000000) {d:Bool} (k:Nat) (hk:k < 16):a0e L.env d (f7x L.env Mf) (.func (.func 86) [] []) [.int .u8 k,V] H = some (.int .u8 (a4k k l:Nat),H,refs V):=
 a63 hV (f7w:=[.int .u8 k]) (post:=[]) (by kernel_rfl) (by kernel_rfl) rfl rfl rfl (fun V H hV=>b7i k hk l V H hV hl)
end Go.ZInst
