/- Part of a proof. No condition. -/
import Derived.Test.YtgmenpackpnmaaaGreatDoorMNe
import Derived.Test.YtgmenpackpnmaaaGreatDoorMWo
import Derived.Test.YtgmenpackpnmaaaGreatDoorPcB
import Derived.Test.YtgmenpackpnmaaaGreatDoorAxF
set_option linter.unusedSimpArgs false
set_option linter.unusedVariables false
namespace Go.MInst
open Go.Proofs Go.Ax Go.Pc
set_option maxRecDepth 100000
inductive RA (l:List Nat):AV → a05 → Prop
 | imm (r:Rep):RA l (sl r (l.map u8R)) []
 | blk (c:Option Nat) (rest:List (List AV)) (hf:FlatR (l.map u8R ++ rest)):RA l (.slice 0 0 l.length c) [some (.row 1 (l.map u8R ++ rest))]
theorem a2h (l:List Nat):FlatR (l.map u8R):=FlatR.map fun _=>rfl
theorem b8l {l:List Nat} {V:AV} {H:a05} (h:RA l V H):c07 L.env (a02 H) 48 V = some (.int .i64 l.length):=by
 cases h with
 | imm r=>simp +decide only [go_sem]
 | blk c rest hf=>simp +decide only [go_sem]
theorem b8m {l:List Nat} {V:AV} {H:a05} (h:RA l V H) {i v:Nat} (hi:l[i]? = some v):∃ p,a13 L.env (a02 H) 48 V (.int .i64 i) = some p ∧ a6a L.env (a02 H) 66 p = some (.int .u8 v):=by
 have hlt:=(List.getElem?_eq_some_iff.1 hi).1
 cases h with
 | imm r=>exact ⟨_,by simp +decide only [go_sem,hi,hlt]<;>rfl,by simp +decide only [go_sem,hi,hlt]⟩
 | blk c rest hf=>
  have hg:(l.map u8R ++ rest)[i]? = some [.int .u8 v]:=by rw [List.getElem?_append_left (by simpa using hlt),List.getElem?_map,hi];rfl
  have hl2:i < (l.map u8R ++ rest).length:=by simp;omega
  exact ⟨_,by simp +decide only [go_sem,hg,hlt,hl2]<;>rfl,by simp +decide only [go_sem,hg,hlt,hl2]⟩
theorem a1t {l:List Nat} {V v:AV} {H:a05} (h:RA l V H) (hv:refs v = []):a1v false H.length v H = some (v,H):=by
 cases h with
 | imm r=>exact a65 hv
 | blk c rest hf=>
  have h1:=fun π=>a04 π hf
  have hr:∀ π,ren π v = v:=fun π=>a1a π v hv
  simp +decide only [go_sem,a1v,a63 _ _ _ _ hv,h1]
theorem d7u {l:List Nat} {V:AV} {H:a05} (h:RA l V H) (b:Nat):a0w (a02 H b) = []:=by
 cases h with
 | imm r=>rfl
 | blk c rest hf=>
  cases b with
  | zero=>exact a0u hf
  | succ b=>rfl
theorem d5p {l:List Nat} {V:AV} {H:a05} (h:RA l V H):(∀ b ∈ refs V,b < H.length) ∧ (refs V).length ≤ 1:=by
 cases h with
 | imm r=>rw [a2f];exact ⟨fun b hb=>by simp at hb,by simp⟩
 | blk c rest hf=>exact ⟨fun b hb=>by simp [refs] at hb;subst hb;simp,by simp [refs]⟩
theorem b6o {l:List Nat} {V:AV} {H:a05} (h:RA l V H) {keep:List Nat} {F F':Frm} (hk:a1q keep F = F') (hF:a0e (F'.map (·.2)) = refs V ∨ a0e (F'.map (·.2)) = []):gcD H.length keep F H = some (F',H):=by
 obtain ⟨h1,h2⟩:=d5p h
 refine e3i hk ?_ ?_ (d7u h)
 ·rcases hF with e|e<;>rw [e]
  ·exact h1
  ·intro b hb;simp at hb
 ·rcases hF with e|e<;>rw [e]
  ·omega
  ·simp
theorem a60 {l:List Nat} {V:AV} {H:a05} (h:RA l V H) {d:Bool} {g:FuncId} {pre post:List AV} {v:AV} (hx:L.env.ext g = false) (hf:(L.env.fn g).isSome = true) (hp:a0e pre = []) (hq:a0e post = []) (hv:refs v = [])
 (hr:∀ V H,RA l V H → sem L.env Mf g (pre ++ V :: post) H = some (v,H)):a0c L.env d (sem L.env Mf) (.func (.func g) [] []) (pre ++ V :: post) H = some (v,H,refs V):=by
 have hr:=hr V H h
 cases h with
 | imm r=>
  rw [a2f]
  exact a03 hx hf rfl (by simp only [List.nil_append,List.append_nil,a88,a09,a2f,hp,hq]) (by simpa using hr) hv
 | blk c rest hfl=>
  refine a2d (b:=0) (fs:=[]) (cs:=[]) (args:=pre ++ .slice 0 0 l.length c :: post) hx hf (by simp) rfl (a0u hfl) (FlatO.row hfl) (by simp only [a88,a09,hp,hq,a5o,List.nil_append,List.append_nil]) (args':=pre ++ .slice 0 0 l.length c :: post) ?_ hr hv
  rw [List.map_append,List.map_cons,a29]
  have e:∀ l:List AV,a0e l = [] → l.map (ren (a59 [0])) = l:=fun l hl=>a44 _ hl
  rw [e _ hp,e _ hq]
/-! ### scalars -/
theorem c89 (v:Nat):sem L.env Mf 145 [.int .u8 v] [] = some (.bool (decide (v ≤ 1)),[]):=by
 have e:decide ((v:Int) ≤ 1) = decide (v ≤ 1):=by rw [decide_eq_decide];omega
 (refine sv Tryz.f145 ?_;simp only [Tryz.f145,gS])
 (repeat first|simp only [ww]|(apply xa;simp +decide only [go_sem,e];rfl;kernel_rfl))
 (apply fqb;simp +decide only [go_sem]<;>rfl)
theorem b39 {d:Bool} (H:a05) (v:Nat):a0c L.env d (sem L.env Mf) (.func (.func 145) [] []) [.int .u8 v] H = some (.bool (decide (v ≤ 1)),H,[]):=a03 (by kernel_rfl) (by kernel_rfl) rfl rfl (c89 v) rfl
theorem d2k (v:Nat):sem L.env Mf 111 [.int .u8 v] [] = some (.int .u8 (a4s v:Nat),[]):=by
 have e:d0l (.int .u8 v) [.int .u8 2] = some (.int .u8 ((a4s v:Nat):Int)):=by
  simp only [d0l,a4s]
  by_cases h:(2:Int) < v
  ·rw [if_pos h];congr 2;omega
  ·rw [if_neg h];congr 2;omega
 generalize a4s v = w at e
 (refine sv Tryz.f111 ?_;simp only [Tryz.f111,gS])
 (repeat first|simp only [ww]|(apply xa;simp +decide only [go_sem,e];rfl;kernel_rfl))
 (apply fqb;simp +decide only [go_sem]<;>rfl)
theorem a74 {d:Bool} (H:a05) (v:Nat):a0c L.env d (sem L.env Mf) (.func (.func 111) [] []) [.int .u8 v] H = some (.int .u8 (a4s v:Nat),H,[]):=a03 (by kernel_rfl) (by kernel_rfl) rfl rfl (d2k v) rfl
theorem d8i (v:Nat):sem L.env Mf 112 [.int .u8 v] [] = some (.int .u8 (b29 v:Nat),[]):=by
 have hk:=fun H=>b39 (d:=false) H v
 by_cases h:v ≤ 1
 ·have hw:IntKind.u8.wrap (1 - (v:Int)) = ((1 - v:Nat):Int):=by rw [IntWalk.u8_in _ ⟨by omega,by omega⟩];omega
  rw [show b29 v = 1 - v by simp [b29,h]]
  (refine sv Tryz.f112 ?_;simp only [Tryz.f112,gS])
  (repeat first|simp only [ww]|(apply xa;simp +decide only [go_sem,hk,h,hw];rfl;kernel_rfl))
  (apply fqb;simp +decide only [go_sem]<;>rfl)
 ·rw [show b29 v = 2 by simp [b29,h]]
  (refine sv Tryz.f112 ?_;simp only [Tryz.f112,gS])
  (repeat first|simp only [ww]|(apply xa;simp +decide only [go_sem,hk,h];rfl;kernel_rfl))
  (apply fqb;simp +decide only [go_sem]<;>rfl)
theorem c87 {d:Bool} (H:a05) (v:Nat):a0c L.env d (sem L.env Mf) (.func (.func 112) [] []) [.int .u8 v] H = some (.int .u8 (b29 v:Nat),H,[]):=a03 (by kernel_rfl) (by kernel_rfl) rfl rfl (d8i v) rfl
theorem d8j (s a b:Nat):sem L.env Mf 116 [.int .u8 s,.int .u8 a,.int .u8 b] [] = some (.int .u8 (b8t s a b:Nat),[]):=by
 have ha:=fun H=>a74 (d:=false) H a
 have hb:=fun H=>a74 (d:=false) H b
 by_cases h0:s = 0
 ·have c0:(s:Int) = 0:=by omega
  rw [show b8t s a b = a4s a by simp [b8t,h0]]
  (refine sv Tryz.f116 ?_;simp only [Tryz.f116,gS])
  (repeat first|simp only [ww]|(apply xa;simp +decide only [go_sem,ha,c0];rfl;kernel_rfl))
  (apply fqb;simp +decide only [go_sem]<;>rfl)
 have c0:¬ (s:Int) = 0:=by omega
 by_cases h1:s = 1
 ·have c1:(s:Int) = 1:=by omega
  rw [show b8t s a b = a4s b by simp [b8t,h1]]
  (refine sv Tryz.f116 ?_;simp only [Tryz.f116,gS])
  (repeat first|simp only [ww]|(apply xa;simp +decide only [go_sem,hb,c1];rfl;kernel_rfl))
  (apply fqb;simp +decide only [go_sem]<;>rfl)
 have c1:¬ (s:Int) = 1:=by omega
 by_cases h2:a = b
 ·have c2:(a:Int) = b:=by omega
  rw [show b8t s a b = a4s a by simp [b8t,h0,h1,h2]]
  (refine sv Tryz.f116 ?_;simp only [Tryz.f116,gS])
  (repeat first|simp only [ww]|(apply xa;simp +decide only [go_sem,ha,c0,c1,c2];rfl;kernel_rfl))
  subst h2
  (repeat first|simp only [ww]|(apply xa;simp +decide only [go_sem,ha];rfl;kernel_rfl))
  (apply fqb;simp +decide only [go_sem]<;>rfl)
 ·have c2:¬ (a:Int) = b:=by omega
  rw [show b8t s a b = 2 by simp [b8t,h0,h1,h2]]
  (refine sv Tryz.f116 ?_;simp only [Tryz.f116,gS])
  (repeat first|simp only [ww]|(apply xa;simp +decide only [go_sem,c0,c1,c2];rfl;kernel_rfl))
  (apply fqb;simp +decide only [go_sem]<;>rfl)
theorem c88 {d:Bool} (H:a05) (s a b:Nat):a0c L.env d (sem L.env Mf) (.func (.func 116) [] []) [.int .u8 s,.int .u8 a,.int .u8 b] H = some (.int .u8 (b8t s a b:Nat),H,[]):=a03 (by kernel_rfl) (by kernel_rfl) rfl rfl (d8j s a b) rfl
theorem d8h (e v:Nat):sem L.env Mf 117 [.int .u8 e,.int .u8 v] [] = some (.int .u8 (c1a e v:Nat),[]):=by
 have ha:=fun H=>a74 (d:=false) H v
 by_cases h0:e = 0
 ·have c0:(e:Int) = 0:=by omega
  rw [show c1a e v = 3 by simp [c1a,h0]]
  (refine sv Tryz.f117 ?_;simp only [Tryz.f117,gS])
  (repeat first|simp only [ww]|(apply xa;simp +decide only [go_sem,c0];rfl;kernel_rfl))
  (apply fqb;simp +decide only [go_sem]<;>rfl)
 have c0:¬ (e:Int) = 0:=by omega
 by_cases h1:e = 1
 ·have c1:(e:Int) = 1:=by omega
  rw [show c1a e v = a4s v by simp [c1a,h1]]
  (refine sv Tryz.f117 ?_;simp only [Tryz.f117,gS])
  (repeat first|simp only [ww]|(apply xa;simp +decide only [go_sem,ha,c1];rfl;kernel_rfl))
  (apply fqb;simp +decide only [go_sem]<;>rfl)
 have c1:¬ (e:Int) = 1:=by omega
 rw [show c1a e v = 2 by simp [c1a,h0,h1]]
 (refine sv Tryz.f117 ?_;simp only [Tryz.f117,gS])
 (repeat first|simp only [ww]|(apply xa;simp +decide only [go_sem,c0,c1];rfl;kernel_rfl))
 (apply fqb;simp +decide only [go_sem]<;>rfl)
theorem c83 {d:Bool} (H:a05) (e v:Nat):a0c L.env d (sem L.env Mf) (.func (.func 117) [] []) [.int .u8 e,.int .u8 v] H = some (.int .u8 (c1a e v:Nat),H,[]):=a03 (by kernel_rfl) (by kernel_rfl) rfl rfl (d8h e v) rfl
/-! ### lists -/
theorem c5b (l:List Nat) (V:AV) (H:a05) (hV:RA l V H) (hl:l.length < 1000000) (low high:Nat):sem L.env Mf 146 [V,.int .u8 low,.int .u8 high] H = some (.int .u8 (a6n low high high l:Nat),H):=by
 have hlen:=b8l hV
 have hlow:=d5p hV
 suffices hs:∃ r:AV × a05,(r = (.int .u8 (a6n low high high l:Nat),H)) ∧ sem L.env Mf 146 [V,.int .u8 low,.int .u8 high] H = some r by
  obtain ⟨r,rfl,h3⟩:=hs
  exact h3
 (refine svE Tryz.f146 ?_;simp only [Tryz.f146,gS])
 (repeat first|simp only [ww]|(apply xa;simp +decide only [go_sem,hlen];rfl;kernel_rfl))
 refine a30 kp146_0 (fun n F H1=>∃ (i out:Nat),n = l.length - i ∧ i ≤ l.length ∧ F = [(1,.int .u8 low),(2,.int .u8 high),(7,.int .u8 out),(11,V),(12,.int .i64 l.length),(13,.int .i64 i)] ∧ H1 = H ∧ a6n low high out (l.drop i) = a6n low high high l) l.length ?_ ?_
 ·exact ⟨_,_,b6o hV (by simp +decide only [go_sem]<;>rfl) (.inl (by simp +decide only [go_sem])),0,high,rfl,Nat.zero_le _,rfl,rfl,rfl⟩
 ·rintro n F H1 ⟨i,out,rfl,hi,rfl,rfl,hout⟩
  by_cases hlt:i < l.length
  ·obtain ⟨v,hv⟩:∃ v,l[i]? = some v:=⟨_,List.getElem?_eq_getElem hlt⟩
   obtain ⟨p,hp1,hp2⟩:=b8m hV hv
   have hd:l.drop i = v :: l.drop (i + 1):=by rw [← List.getElem_cons_drop hlt,(List.getElem?_eq_some_iff.1 hv).2]
   rw [hd] at hout
   have c1:(i:Int) < l.length:=by omega
   have hw:=wI1 (n:=i) (by omega)
   by_cases h1:v = low
   ·have c2:(v:Int) = low:=by omega
    simp only [a6n,h1,if_true] at hout
    (repeat first|simp only [ww]|(apply xa;simp +decide only [go_sem,c1,hp1,hp2,c2];rfl;kernel_rfl))
    refine a2s (vs:=[.int .u8 low]) (r:=(_,_)) (by simp +decide only [go_sem]) (a1t hV rfl) ?_
    rw [← hout];rfl
   ·have c2:¬ (v:Int) = low:=by omega
    by_cases h2:v = high
    ·subst h2
     simp only [a6n,if_neg h1,if_true] at hout
     (repeat first|simp only [ww]|(apply xa;simp +decide only [go_sem,c1,hp1,hp2,c2,hw];rfl;kernel_rfl))
     refine a17 (l.length - (i + 1)) (by omega) ⟨_,_,b6o hV (by simp +decide only [go_sem]<;>rfl) (.inl (by simp +decide only [go_sem])),i + 1,out,rfl,hlt,rfl,rfl,hout⟩
    ·have c3:¬ (v:Int) = high:=by omega
     simp only [a6n,if_neg h1,if_neg h2] at hout
     (repeat first|simp only [ww]|(apply xa;simp +decide only [go_sem,c1,hp1,hp2,c2,c3,hw];rfl;kernel_rfl))
     refine a17 (l.length - (i + 1)) (by omega) ⟨_,_,b6o hV (by simp +decide only [go_sem]<;>rfl) (.inl (by simp +decide only [go_sem])),i + 1,2,rfl,hlt,rfl,rfl,hout⟩
  ·obtain rfl:i = l.length:=by omega
   have c1:¬ (l.length:Int) < l.length:=by omega
   rw [List.drop_length] at hout
   simp only [a6n] at hout
   (repeat first|simp only [ww]|(apply xa;simp +decide only [go_sem,c1];rfl;kernel_rfl))
   refine a5b (vs:=[.int .u8 out]) (r:=(_,_)) (by simp +decide only [go_sem]) (a1t hV rfl) ?_
   rw [← hout];rfl
theorem b1q {l:List Nat} {V:AV} {H:a05} (hV:RA l V H) (hl:l.length < 1000000) {d:Bool} (low high:Nat) {a b:Int} (ha:a = low) (hb:b = high):a0c L.env d (sem L.env Mf) (.func (.func 146) [] []) [V,.int .u8 a,.int .u8 b] H = some (.int .u8 (a6n low high high l:Nat),H,refs V):=by
 subst ha;subst hb
 exact a60 hV (pre:=[]) (post:=[.int .u8 low,.int .u8 high]) (by kernel_rfl) (by kernel_rfl) rfl rfl rfl (fun V H hV=>c5b l V H hV hl low high)
theorem d8p (l:List Nat) (V:AV) (H:a05) (hV:RA l V H) (hl:l.length < 1000000):sem L.env Mf 113 [V] H = some (.int .u8 (a6n 0 1 1 l:Nat),H):=by
 have hc:=b1q hV hl (d:=false) 0 1 (a:=0) (b:=1) rfl rfl
 generalize a6n 0 1 1 l = w at hc
 (refine sv Tryz.f113 ?_;simp only [Tryz.f113,gS])
 (repeat first|simp only [ww]|(apply xa;simp +decide only [go_sem,hc];rfl;kernel_rfl))
 refine a77 (vs:=[.int .u8 w]) (by simp +decide only [go_sem]) (a1t hV rfl)
theorem c8n {l:List Nat} {V:AV} {H:a05} (hV:RA l V H) (hl:l.length < 1000000) {d:Bool}:a0c L.env d (sem L.env Mf) (.func (.func 113) [] []) [V] H = some (.int .u8 (a6n 0 1 1 l:Nat),H,refs V):=
 a60 hV (pre:=[]) (post:=[]) (by kernel_rfl) (by kernel_rfl) rfl rfl rfl (fun V H hV=>d8p l V H hV hl)
theorem e38 (l:List Nat) (V:AV) (H:a05) (hV:RA l V H) (hl:l.length < 1000000):sem L.env Mf 114 [V] H = some (.int .u8 (a6n 1 0 0 l:Nat),H):=by
 have hc:=b1q hV hl (d:=false) 1 0 (a:=1) (b:=0) rfl rfl
 generalize a6n 1 0 0 l = w at hc
 (refine sv Tryz.f114 ?_;simp only [Tryz.f114,gS])
 (repeat first|simp only [ww]|(apply xa;simp +decide only [go_sem,hc];rfl;kernel_rfl))
 refine a77 (vs:=[.int .u8 w]) (by simp +decide only [go_sem]) (a1t hV rfl)
theorem d2l {l:List Nat} {V:AV} {H:a05} (hV:RA l V H) (hl:l.length < 1000000) {d:Bool}:a0c L.env d (sem L.env Mf) (.func (.func 114) [] []) [V] H = some (.int .u8 (a6n 1 0 0 l:Nat),H,refs V):=
 a60 hV (pre:=[]) (post:=[]) (by kernel_rfl) (by kernel_rfl) rfl rfl rfl (fun V H hV=>e38 l V H hV hl)
theorem e6a {a b:Nat} (ha:a ≤ 1) (hb:b ≤ 1):e7o .u8 (a:Int) (b:Int) = ((a ^^^ b:Nat):Int) ∧ a ^^^ b ≤ 1:=by
 have ha:a = 0 ∨ a = 1:=by omega
 have hb:b = 0 ∨ b = 1:=by omega
 rcases ha with rfl|rfl<;>rcases hb with rfl|rfl<;>exact ⟨by decide,by decide⟩
theorem d8g (l:List Nat) (V:AV) (H:a05) (hV:RA l V H) (hl:l.length < 1000000):sem L.env Mf 115 [V] H = some (.int .u8 (b4x 0 l:Nat),H):=by
 have hlen:=b8l hV
 suffices hs:∃ r:AV × a05,(r = (.int .u8 (b4x 0 l:Nat),H)) ∧ sem L.env Mf 115 [V] H = some r by
  obtain ⟨r,rfl,h3⟩:=hs
  exact h3
 (refine svE Tryz.f115 ?_;simp only [Tryz.f115,gS])
 (repeat first|simp only [ww]|(apply xa;simp +decide only [go_sem,hlen];rfl;kernel_rfl))
 refine a30 kp115_0 (fun n F H1=>∃ (i out:Nat),n = l.length - i ∧ i ≤ l.length ∧ out ≤ 1 ∧ F = [(3,.int .u8 out),(6,V),(7,.int .i64 l.length),(8,.int .i64 i)] ∧ H1 = H ∧ b4x out (l.drop i) = b4x 0 l) l.length ?_ ?_
 ·exact ⟨_,_,b6o hV (by simp +decide only [go_sem]<;>rfl) (.inl (by simp +decide only [go_sem])),0,0,rfl,Nat.zero_le _,by omega,rfl,rfl,rfl⟩
 ·rintro n F H1 ⟨i,out,rfl,hi,ho,rfl,rfl,hout⟩
  by_cases hlt:i < l.length
  ·obtain ⟨v,hv⟩:∃ v,l[i]? = some v:=⟨_,List.getElem?_eq_getElem hlt⟩
   obtain ⟨p,hp1,hp2⟩:=b8m hV hv
   have hd:l.drop i = v :: l.drop (i + 1):=by rw [← List.getElem_cons_drop hlt,(List.getElem?_eq_some_iff.1 hv).2]
   rw [hd] at hout
   have c1:(i:Int) < l.length:=by omega
   have hw:=wI1 (n:=i) (by omega)
   have hk:=fun H=>b39 (d:=false) H v
   by_cases h1:v ≤ 1
   ·obtain ⟨hx,hx1⟩:=e6a ho h1
    simp only [b4x,if_pos h1] at hout
    (repeat first|simp only [ww]|(apply xa;simp +decide only [go_sem,c1,hp1,hp2,hk,h1,hx,hw];rfl;kernel_rfl))
    refine a17 (l.length - (i + 1)) (by omega) ⟨_,_,b6o hV (by simp +decide only [go_sem]<;>rfl) (.inl (by simp +decide only [go_sem])),i + 1,out ^^^ v,rfl,hlt,hx1,rfl,rfl,hout⟩
   ·simp only [b4x,if_neg h1] at hout
    (repeat first|simp only [ww]|(apply xa;simp +decide only [go_sem,c1,hp1,hp2,hk,h1];rfl;kernel_rfl))
    refine a2s (vs:=[.int .u8 2]) (r:=(_,_)) (by simp +decide only [go_sem]) (a1t hV rfl) ?_
    rw [← hout];rfl
  ·obtain rfl:i = l.length:=by omega
   have c1:¬ (l.length:Int) < l.length:=by omega
   rw [List.drop_length] at hout
   simp only [b4x] at hout
   (repeat first|simp only [ww]|(apply xa;simp +decide only [go_sem,c1];rfl;kernel_rfl))
   refine a5b (vs:=[.int .u8 out]) (r:=(_,_)) (by simp +decide only [go_sem]) (a1t hV rfl) ?_
   rw [← hout];rfl
theorem c82 {l:List Nat} {V:AV} {H:a05} (hV:RA l V H) (hl:l.length < 1000000) {d:Bool}:a0c L.env d (sem L.env Mf) (.func (.func 115) [] []) [V] H = some (.int .u8 (b4x 0 l:Nat),H,refs V):=
 a60 hV (pre:=[]) (post:=[]) (by kernel_rfl) (by kernel_rfl) rfl rfl rfl (fun V H hV=>d8g l V H hV hl)
set_option maxHeartbeats 200000000
open Go.Proofs Go.Ax Go.Pc
set_option maxRecDepth 100000
def b4o (p:Nat → Bool) (l:List Nat):Int:=match l.findIdx? p with
 | some i=>i
 | none=>-1
theorem c2y {p:Nat → Bool} {l:List Nat} {i v:Nat} (hv:l[i]? = some v) (hp:p v = true) (hb:∀ (j w:Nat),j < i → l[j]? = some w → p w = false):b4o p l = i:=by
 have hlt:=(List.getElem?_eq_some_iff.1 hv).1
 have:l.findIdx? p = some i:=by
  rw [List.findIdx?_eq_some_iff_getElem]
  refine ⟨hlt,by rw [(List.getElem?_eq_some_iff.1 hv).2];exact hp,fun j hj=>?_⟩
  have:=hb j _ hj (List.getElem?_eq_getElem (by omega))
  simp [this]
 unfold b4o;rw [this]
theorem b96 {p:Nat → Bool} {l:List Nat} (hb:∀ (j w:Nat),j < l.length → l[j]? = some w → p w = false):b4o p l = -1:=by
 have:l.findIdx? p = none:=by
  rw [List.findIdx?_eq_none_iff]
  intro x hx
  obtain ⟨j,hj⟩:=List.mem_iff_getElem?.1 hx
  exact hb j x (List.getElem?_eq_some_iff.1 hj).1 hj
 unfold b4o;rw [this]
theorem c90 (p:Nat → Bool) (l:List Nat):decide (0 ≤ b4o p l) = l.any p:=by
 unfold b4o
 cases h:l.findIdx? p with
 | none=>
  have:=List.findIdx?_eq_none_iff.1 h
  have e:l.any p = false:=by rw [List.any_eq_false];intro x hx;simp [this x hx]
  rw [e];rfl
 | some i=>
  obtain ⟨hi,hp,_⟩:=List.findIdx?_eq_some_iff_getElem.1 h
  have e:l.any p = true:=List.any_eq_true.2 ⟨_,List.getElem_mem hi,hp⟩
  rw [e];simp
theorem d2o (l:List Nat) (V:AV) (H:a05) (hV:RA l V H) (hl:l.length < 1000000) (f:AV) (p:Nat → Bool) (hf0:refs f = []) (hf:∀ (d:Bool) (H:a05) (v:Nat),a0c L.env d (sem L.env Mf) f [.int .u8 v] H = some (.bool (p v),H,[])) :
 sem L.env Mf 144 [V,f] H = some (.int .i64 (b4o p l),H):=by
 have hlen:=b8l hV
 suffices hs:∃ r:AV × a05,(r = (.int .i64 (b4o p l),H)) ∧ sem L.env Mf 144 [V,f] H = some r by
  obtain ⟨r,rfl,h3⟩:=hs
  exact h3
 (refine svE Tryz.f144 ?_;simp only [Tryz.f144,gS])
 (repeat first|simp only [ww]|(apply xa;simp +decide only [go_sem,hlen];rfl;kernel_rfl))
 refine a30 kp144_0 (fun n F H1=>∃ (i:Nat),n = l.length - i ∧ i ≤ l.length ∧ F = [(0,V),(1,f),(7,.int .i64 l.length),(8,.int .i64 i)] ∧ H1 = H ∧ ∀ (j w:Nat),j < i → l[j]? = some w → p w = false) l.length ?_ ?_
 ·exact ⟨_,_,b6o hV (by simp +decide only [go_sem]<;>rfl) (.inl (by simp +decide only [go_sem,hf0])),0,rfl,Nat.zero_le _,rfl,rfl,fun j w hj=>by omega⟩
 ·rintro n F H1 ⟨i,rfl,hi,rfl,rfl,hb⟩
  by_cases hlt:i < l.length
  ·obtain ⟨v,hv⟩:∃ v,l[i]? = some v:=⟨_,List.getElem?_eq_getElem hlt⟩
   obtain ⟨q,hp1,hp2⟩:=b8m hV hv
   have c1:(i:Int) < l.length:=by omega
   have hw:=wI1 (n:=i) (by omega)
   have hc:=fun d H=>hf d H v
   cases hpv:p v with
   | true=>
    rw [hpv] at hc
    (repeat first|simp only [ww]|(apply xa;simp +decide only [go_sem,c1,hp1,hp2,hc];rfl;kernel_rfl))
    refine a2s (vs:=[.int .i64 i]) (r:=(_,_)) (by simp +decide only [go_sem]) (a1t hV rfl) ?_
    rw [c2y hv hpv hb];rfl
   | false=>
    rw [hpv] at hc
    (repeat first|simp only [ww]|(apply xa;simp +decide only [go_sem,c1,hp1,hp2,hc,hw];rfl;kernel_rfl))
    refine a17 (l.length - (i + 1)) (by omega) ⟨_,_,b6o hV (by simp +decide only [go_sem]<;>rfl) (.inl (by simp +decide only [go_sem,hf0])),i + 1,rfl,hlt,rfl,rfl,fun j w hj hjw=>?_⟩
    by_cases hji:j = i
    ·subst hji;rw [hv] at hjw;cases hjw;exact hpv
    ·exact hb j w (by omega) hjw
  ·obtain rfl:i = l.length:=by omega
   have c1:¬ (l.length:Int) < l.length:=by omega
   (repeat first|simp only [ww]|(apply xa;simp +decide only [go_sem,c1];rfl;kernel_rfl))
   refine a2s (vs:=[.int .i64 (-1)]) (r:=(_,_)) (by simp +decide only [go_sem]) (a1t hV rfl) ?_
   rw [b96 hb];rfl
theorem b5j {l:List Nat} {V:AV} {H:a05} (hV:RA l V H) (hl:l.length < 1000000) {d:Bool} (f:AV) (p:Nat → Bool) (hf0:refs f = []) (hf:∀ (d:Bool) (H:a05) (v:Nat),a0c L.env d (sem L.env Mf) f [.int .u8 v] H = some (.bool (p v),H,[])) :
 a0c L.env d (sem L.env Mf) (.func (.func 144) [] []) [V,f] H = some (.int .i64 (b4o p l),H,refs V):=
 a60 hV (pre:=[]) (post:=[f]) (by kernel_rfl) (by kernel_rfl) rfl (by simp only [a09,a1u,hf0,List.append_nil]) rfl (fun V H hV=>d2o l V H hV hl f p hf0 hf)
theorem c8f (l:List Nat) (V:AV) (H:a05) (hV:RA l V H) (hl:l.length < 1000000) (f:AV) (p:Nat → Bool) (hf0:refs f = []) (hf:∀ (d:Bool) (H:a05) (v:Nat),a0c L.env d (sem L.env Mf) f [.int .u8 v] H = some (.bool (p v),H,[])) :
 sem L.env Mf 108 [V,f] H = some (.bool (l.any p),H):=by
 have hc:=fun d=>b5j hV hl (d:=d) f p hf0 hf
 have he:=c90 p l
 generalize b4o p l = x at hc he
 rw [← he]
 (refine sv Tryz.f108 ?_;simp only [Tryz.f108,gS])
 (repeat first|simp only [ww]|(apply xa;simp +decide only [go_sem,hc];rfl;kernel_rfl))
 refine a77 (vs:=[.bool _]) (by simp +decide only [go_sem]<;>rfl) (a1t hV rfl)
theorem c1h {l:List Nat} {V:AV} {H:a05} (hV:RA l V H) (hl:l.length < 1000000) {d:Bool} (f:AV) (p:Nat → Bool) (hf0:refs f = []) (hf:∀ (d:Bool) (H:a05) (v:Nat),a0c L.env d (sem L.env Mf) f [.int .u8 v] H = some (.bool (p v),H,[])) :
 a0c L.env d (sem L.env Mf) (.func (.func 108) [] []) [V,f] H = some (.bool (l.any p),H,refs V):=
 a60 hV (pre:=[]) (post:=[f]) (by kernel_rfl) (by kernel_rfl) rfl (by simp only [a09,a1u,hf0,List.append_nil]) rfl (fun V H hV=>c8f l V H hV hl f p hf0 hf)
theorem d8l (l:List Nat) (V:AV) (H:a05) (hV:RA l V H) (hl:l.length < 1000000) (w:Nat):sem L.env Mf 175 [V,.int .u8 w] H = some (.int .i64 (b4o (fun v=>decide (w = v)) l),H):=by
 have hlen:=b8l hV
 suffices hs:∃ r:AV × a05,(r = (.int .i64 (b4o (fun v=>decide (w = v)) l),H)) ∧ sem L.env Mf 175 [V,.int .u8 w] H = some r by
  obtain ⟨r,rfl,h3⟩:=hs
  exact h3
 (refine svE Tryz.f175 ?_;simp only [Tryz.f175,gS])
 (repeat first|simp only [ww]|(apply xa;simp +decide only [go_sem,hlen];rfl;kernel_rfl))
 refine a30 kp175_0 (fun n F H1=>∃ (i:Nat),n = l.length - i ∧ i ≤ l.length ∧ F = [(0,V),(1,.int .u8 w),(7,.int .i64 l.length),(8,.int .i64 i)] ∧ H1 = H ∧ ∀ (j v:Nat),j < i → l[j]? = some v → decide (w = v) = false) l.length ?_ ?_
 ·exact ⟨_,_,b6o hV (by simp +decide only [go_sem]<;>rfl) (.inl (by simp +decide only [go_sem])),0,rfl,Nat.zero_le _,rfl,rfl,fun j w hj=>by omega⟩
 ·rintro n F H1 ⟨i,rfl,hi,rfl,rfl,hb⟩
  by_cases hlt:i < l.length
  ·obtain ⟨v,hv⟩:∃ v,l[i]? = some v:=⟨_,List.getElem?_eq_getElem hlt⟩
   obtain ⟨q,hp1,hp2⟩:=b8m hV hv
   have c1:(i:Int) < l.length:=by omega
   have hw:=wI1 (n:=i) (by omega)
   by_cases hwv:w = v
   ·subst hwv
    (repeat first|simp only [ww]|(apply xa;simp +decide only [go_sem,c1,hp1,hp2];rfl;kernel_rfl))
    refine a2s (vs:=[.int .i64 i]) (r:=(_,_)) (by simp +decide only [go_sem]) (a1t hV rfl) ?_
    rw [c2y hv (by simp) hb];rfl
   ·have c2:¬ (w:Int) = v:=by omega
    (repeat first|simp only [ww]|(apply xa;simp +decide only [go_sem,c1,hp1,hp2,c2,hw];rfl;kernel_rfl))
    refine a17 (l.length - (i + 1)) (by omega) ⟨_,_,b6o hV (by simp +decide only [go_sem]<;>rfl) (.inl (by simp +decide only [go_sem])),i + 1,rfl,hlt,rfl,rfl,fun j u hj hju=>?_⟩
    by_cases hji:j = i
    ·subst hji;rw [hv] at hju;cases hju;simpa using hwv
    ·exact hb j u (by omega) hju
  ·obtain rfl:i = l.length:=by omega
   have c1:¬ (l.length:Int) < l.length:=by omega
   (repeat first|simp only [ww]|(apply xa;simp +decide only [go_sem,c1];rfl;kernel_rfl))
   refine a2s (vs:=[.int .i64 (-1)]) (r:=(_,_)) (by simp +decide only [go_sem]) (a1t hV rfl) ?_
   rw [b96 hb];rfl
theorem c8b {l:List Nat} {V:AV} {H:a05} (hV:RA l V H) (hl:l.length < 1000000) {d:Bool} (w:Nat):a0c L.env d (sem L.env Mf) (.func (.func 175) [] []) [V,.int .u8 w] H = some (.int .i64 (b4o (fun v=>decide (w = v)) l),H,refs V):=
 a60 hV (pre:=[]) (post:=[.int .u8 w]) (by kernel_rfl) (by kernel_rfl) rfl rfl rfl (fun V H hV=>d8l l V H hV hl w)
theorem d2q (l:List Nat) (V:AV) (H:a05) (hV:RA l V H) (hl:l.length < 1000000) (w:Nat):sem L.env Mf 168 [V,.int .u8 w] H = some (.bool (decide (w ∈ l)),H):=by
 have hc:=fun d=>c8b hV hl (d:=d) w
 have he:=c90 (fun v=>decide (w = v)) l
 have hm:(l.any fun v=>decide (w = v)) = decide (w ∈ l):=by
  rw [Bool.eq_iff_iff,List.any_eq_true,decide_eq_true_eq]
  exact ⟨fun ⟨x,hx,h⟩=>by rw [of_decide_eq_true h];exact hx,fun h=>⟨w,h,by simp⟩⟩
 rw [hm] at he
 generalize b4o (fun v=>decide (w = v)) l = x at hc he
 rw [← he]
 (refine sv Tryz.f168 ?_;simp only [Tryz.f168,gS])
 (repeat first|simp only [ww]|(apply xa;simp +decide only [go_sem,hc];rfl;kernel_rfl))
 refine a77 (vs:=[.bool _]) (by simp +decide only [go_sem]<;>rfl) (a1t hV rfl)
theorem b5k {l:List Nat} {V:AV} {H:a05} (hV:RA l V H) (hl:l.length < 1000000) {d:Bool} (w:Nat) {a:Int} (ha:a = w):a0c L.env d (sem L.env Mf) (.func (.func 168) [] []) [V,.int .u8 a] H = some (.bool (decide (w ∈ l)),H,refs V):=by
 subst ha
 exact a60 hV (pre:=[]) (post:=[.int .u8 w]) (by kernel_rfl) (by kernel_rfl) rfl rfl rfl (fun V H hV=>d2q l V H hV hl w)
theorem d2r (l:List Nat) (V:AV) (H:a05) (hV:RA l V H) (hl:l.length < 1000000):sem L.env Mf 150 [V] H = some (.bool (decide (0 ∈ l) && decide (1 ∈ l)),H):=by
 have h0:=fun d=>b5k hV hl (d:=d) 0 (a:=0) rfl
 have h1:=fun d=>b5k hV hl (d:=d) 1 (a:=1) rfl
 generalize decide (1 ∈ l) = y at h1
 cases hx:decide (0 ∈ l) with
 | true=>
  rw [hx] at h0
  (refine sv Tryz.f150 ?_;simp only [Tryz.f150,gS])
  (repeat first|simp only [ww]|(apply xa;simp +decide only [go_sem,h0,h1];rfl;kernel_rfl))
  refine a77 (vs:=[.bool y]) (by simp +decide only [go_sem]) (a1t hV rfl)
 | false=>
  rw [hx] at h0
  (refine sv Tryz.f150 ?_;simp only [Tryz.f150,gS])
  (repeat first|simp only [ww]|(apply xa;simp +decide only [go_sem,h0,h1];rfl;kernel_rfl))
  refine a77 (vs:=[.bool false]) (by simp +decide only [go_sem]) (a1t hV rfl)
theorem c4r {l:List Nat} {V:AV} {H:a05} (hV:RA l V H) (hl:l.length < 1000000) {d:Bool}:a0c L.env d (sem L.env Mf) (.func (.func 150) [] []) [V] H = some (.bool (decide (0 ∈ l) && decide (1 ∈ l)),H,refs V):=
 a60 hV (pre:=[]) (post:=[]) (by kernel_rfl) (by kernel_rfl) rfl rfl rfl (fun V H hV=>d2r l V H hV hl)
theorem b9r (v:Nat):sem L.env Mf 148 [.int .u8 v] [] = some (.int .u8 (a26 v:Nat),[]):=by
 by_cases h:3 < v
 ·have c:(3:Int) < v:=by omega
  rw [show a26 v = 2 by simp [a26,h]]
  (refine sv Tryz.f148 ?_;simp only [Tryz.f148,gS])
  (repeat first|simp only [ww]|(apply xa;simp +decide only [go_sem,c];rfl;kernel_rfl))
  (apply fqb;simp +decide only [go_sem]<;>rfl)
 ·have c:¬ (3:Int) < v:=by omega
  rw [show a26 v = v by simp [a26,h]]
  (refine sv Tryz.f148 ?_;simp only [Tryz.f148,gS])
  (repeat first|simp only [ww]|(apply xa;simp +decide only [go_sem,c];rfl;kernel_rfl))
  (apply fqb;simp +decide only [go_sem]<;>rfl)
theorem d2t (v:Nat):sem L.env Mf 147 [.int .u8 v] [] = some (.bool (decide (a26 v = 2)),[]):=by
 have hc:∀ (d:Bool) H,a0c L.env d (sem L.env Mf) (.func (.func 148) [] []) [.int .u8 v] H = some (.int .u8 (a26 v:Nat),H,[]):=fun d H=>a03 (by kernel_rfl) (by kernel_rfl) rfl rfl (b9r v) rfl
 have e:decide (((a26 v:Nat):Int) = 2) = decide (a26 v = 2):=by rw [decide_eq_decide];omega
 generalize a26 v = w at hc e
 (refine sv Tryz.f147 ?_;simp only [Tryz.f147,gS])
 (repeat first|simp only [ww]|(apply xa;simp +decide only [go_sem,hc,e];rfl;kernel_rfl))
 (apply fqb;simp +decide only [go_sem]<;>rfl)
theorem d2s (v:Nat):sem L.env Mf 149 [.int .u8 v] [] = some (.bool (decide (v ≠ 3)),[]):=by
 have e:(!decide ((v:Int) = 3)) = decide (v ≠ 3):=by
  by_cases h:v = 3
  ·subst h;rfl
  ·have:¬ (v:Int) = 3:=by omega
   simp [h,this]
 (refine sv Tryz.f149 ?_;simp only [Tryz.f149,gS])
 (repeat first|simp only [ww]|(apply xa;simp +decide only [go_sem,e];rfl;kernel_rfl))
 (apply fqb;simp +decide only [go_sem]<;>rfl)
theorem d8m (l:List Nat) (V:AV) (H:a05) (hV:RA l V H) (hl:l.length < 1000000):sem L.env Mf 118 [V] H = some (.int .u8 (d5u l:Nat),H):=by
 have h1:∀ (d:Bool) (H:a05) (v:Nat),a0c L.env d (sem L.env Mf) (.func (.func 147) [] []) [.int .u8 v] H = some (.bool (decide (a26 v = 2)),H,[]):=fun d H v=>a03 (by kernel_rfl) (by kernel_rfl) rfl rfl (d2t v) rfl
 have h2:∀ (d:Bool) (H:a05) (v:Nat),a0c L.env d (sem L.env Mf) (.func (.func 149) [] []) [.int .u8 v] H = some (.bool (decide (v ≠ 3)),H,[]):=fun d H v=>a03 (by kernel_rfl) (by kernel_rfl) rfl rfl (d2s v) rfl
 have c1:=fun d=>b5j hV hl (d:=d) _ (fun v=>decide (v ≠ 3)) rfl h2
 have c2:=fun d=>c1h hV hl (d:=d) _ (fun v=>decide (a26 v = 2)) rfl h1
 have c3:=fun d=>c4r hV hl (d:=d)
 unfold d5u
 unfold b4o at c1
 cases hf:l.findIdx? (fun v=>decide (v ≠ 3)) with
 | none=>
  rw [hf] at c1
  dsimp only at c1 ⊢
  (refine sv Tryz.f118 ?_;simp only [Tryz.f118,gS])
  (repeat first|simp only [ww]|(apply xa;simp +decide only [go_sem,c1];rfl;kernel_rfl))
  refine a77 (vs:=[.int .u8 3]) (by simp +decide only [go_sem]) (a1t hV rfl)
 | some i=>
  rw [hf] at c1
  dsimp only at c1 ⊢
  have hi:=(List.findIdx?_eq_some_iff_getElem.1 hf).1
  obtain ⟨v,hv⟩:∃ v,l[i]? = some v:=⟨_,List.getElem?_eq_getElem hi⟩
  obtain ⟨q,hp1,hp2⟩:=b8m hV hv
  have hg:l.getD i 0 = v:=by rw [List.getD,hv];rfl
  have c0:¬ (i:Int) < 0:=by omega
  rw [hg]
  generalize (decide (0 ∈ l) && decide (1 ∈ l)) = x at c3 ⊢
  generalize (l.any fun v=>decide (a26 v = 2)) = y at c2 ⊢
  cases x with
  | true=>
   (refine sv Tryz.f118 ?_;simp only [Tryz.f118,gS])
   (repeat first|simp only [ww]|(apply xa;simp +decide only [go_sem,c1,c2,c3,c0];rfl;kernel_rfl))
   refine a77 (vs:=[.int .u8 2]) (by simp +decide only [go_sem]) (a1t hV rfl)
  | false=>cases y with
   | true=>
    (refine sv Tryz.f118 ?_;simp only [Tryz.f118,gS])
    (repeat first|simp only [ww]|(apply xa;simp +decide only [go_sem,c1,c2,c3,c0];rfl;kernel_rfl))
    refine a77 (vs:=[.int .u8 2]) (by simp +decide only [go_sem]) (a1t hV rfl)
   | false=>
    (refine sv Tryz.f118 ?_;simp only [Tryz.f118,gS])
    (repeat first|simp only [ww]|(apply xa;simp +decide only [go_sem,c1,c2,c3,c0,hp1,hp2];rfl;kernel_rfl))
    refine a77 (vs:=[.int .u8 v]) (by simp +decide only [go_sem]) (a1t hV rfl)
theorem c8h {l:List Nat} {V:AV} {H:a05} (hV:RA l V H) (hl:l.length < 1000000) {d:Bool}:a0c L.env d (sem L.env Mf) (.func (.func 118) [] []) [V] H = some (.int .u8 (d5u l:Nat),H,refs V):=
 a60 hV (pre:=[]) (post:=[]) (by kernel_rfl) (by kernel_rfl) rfl rfl rfl (fun V H hV=>d8m l V H hV hl)
theorem d5o {l:List Nat} {V:AV} {H:a05} (h:RA l V H):a0t V = [] ∨ a0t V = [0]:=by
 cases h with
 | imm r=>exact .inl (by simp only [go_sem])
 | blk c rest hf=>exact .inr rfl
theorem d7t {l:List Nat} {V:AV} {H:a05} (h:RA l V H) {i v:Nat} (hi:l[i]? = some v):∃ p,a13 L.env (a02 H) 48 V (.int .i64 i) = some p ∧ a6a L.env (a02 H) 66 p = some (.int .u8 v) ∧ a0t p = a0t V:=by
 have hlt:=(List.getElem?_eq_some_iff.1 hi).1
 cases h with
 | imm r=>exact ⟨_,by simp +decide only [go_sem,hi,hlt]<;>rfl,by simp +decide only [go_sem,hi,hlt],by simp +decide only [go_sem]⟩
 | blk c rest hf=>
  have hg:(l.map u8R ++ rest)[i]? = some [.int .u8 v]:=by rw [List.getElem?_append_left (by simpa using hlt),List.getElem?_map,hi];rfl
  have hl2:i < (l.map u8R ++ rest).length:=by simp;omega
  exact ⟨_,by simp +decide only [go_sem,hg,hlt,hl2]<;>rfl,by simp +decide only [go_sem,hg,hlt,hl2],by simp +decide only [go_sem]⟩
theorem b74 (k:Nat) (hk:k < 16) (l:List Nat) (V:AV) (H:a05) (hV:RA l V H) (hl:l.length < 1000000):sem L.env Mf 65 [.int .u8 k,V] H = some (.int .u8 (a4f k l:Nat),H):=by
 have hf:=fun d H=>a8x (d:=d) H k hk
 have hlen:=b8l hV
 by_cases hlo:l.length < a1m k
 ·have c1:(l.length:Int) < a1m k:=by omega
  rw [show a4f k l = 2 by simp [a4f,hlo]]
  (refine sv Tryz.f65 ?_;simp only [Tryz.f65,gS])
  (repeat first|simp only [ww]|(apply xa;simp +decide only [go_sem,hf,c1,hlen];rfl;kernel_rfl))
  refine a77 (vs:=[.int .u8 2]) (by simp +decide only [go_sem]) (a1t hV rfl)
 have c1:¬ (l.length:Int) < a1m k:=by omega
 by_cases hhi:a1n k < l.length
 ·have c2:(a1n k:Int) < l.length:=by omega
  rw [show a4f k l = 2 by simp [a4f,hhi]]
  (refine sv Tryz.f65 ?_;simp only [Tryz.f65,gS])
  (repeat first|simp only [ww]|(apply xa;simp +decide only [go_sem,hf,c1,c2,hlen];rfl;kernel_rfl))
  refine a77 (vs:=[.int .u8 2]) (by simp +decide only [go_sem]) (a1t hV rfl)
 have c2:¬ (a1n k:Int) < l.length:=by omega
 rw [show a4f k l = a47 k l by unfold a4f;rw [if_neg (by omega)]]
 have lo:a1m k ≤ l.length:=by omega
 clear hlo hhi
 have g:∀ (i:Nat) (j:Int),j = i → i < a1m k → ∃ v p,l.getD i 2 = v ∧ a13 L.env (a02 H) 48 V (.int .i64 j) = some p ∧ a6a L.env (a02 H) 66 p = some (.int .u8 v) ∧ a0t p = a0t V:=by
  intro i j hj hi
  subst hj
  obtain ⟨v,hv⟩:∃ v,l[i]? = some v:=⟨_,List.getElem?_eq_getElem (by omega)⟩
  obtain ⟨p,h1,h2,h3⟩:=d7t hV hv
  exact ⟨v,p,by rw [List.getD,hv];rfl,h1,h2,h3⟩
 have ca:=fun (d:Bool)=>c8n hV hl (d:=d)
 have co:=fun (d:Bool)=>d2l hV hl (d:=d)
 have cx:=fun (d:Bool)=>c82 hV hl (d:=d)
 have cb:=fun (d:Bool)=>c8h hV hl (d:=d)
 have cn:=fun (d:Bool) (H:a05) (v:Nat)=>c87 (d:=d) H v
 have cr:=fun (d:Bool) (H:a05) (v:Nat)=>a74 (d:=d) H v
 have cm:=fun (d:Bool) (H:a05) (s a b:Nat)=>c88 (d:=d) H s a b
 have ct:=fun (d:Bool) (H:a05) (a b:Nat)=>c83 (d:=d) H a b
 have hkk:k = 0 ∨ k = 1 ∨ k = 2 ∨ k = 3 ∨ k = 4 ∨ k = 5 ∨ k = 6 ∨ k = 7 ∨ k = 8 ∨ k = 9 ∨ k = 10 ∨ k = 11 ∨ k = 12 ∨ k = 13 ∨ k = 14 ∨ k = 15:=by omega
 (refine sv Tryz.f65 ?_;simp only [Tryz.f65,gS])
 (repeat first|simp only [ww]|(apply xa;simp +decide only [go_sem,hf,c1,c2,hlen];rfl;kernel_rfl))
 rcases hkk with rfl|rfl|rfl|rfl|rfl|rfl|rfl|rfl|rfl|rfl|rfl|rfl|rfl|rfl|rfl|rfl
 ·rw [show a47 0 l = 2 from rfl]
  (repeat first|simp only [ww]|(apply xa;simp +decide only [go_sem];rfl;kernel_rfl))
  exact a77 (vs:=[.int .u8 _]) (by simp +decide only [go_sem]<;>rfl) (a1t hV rfl)
 ·rw [show a47 1 l = 0 from rfl]
  (repeat first|simp only [ww]|(apply xa;simp +decide only [go_sem];rfl;kernel_rfl))
  exact a77 (vs:=[.int .u8 _]) (by simp +decide only [go_sem]<;>rfl) (a1t hV rfl)
 ·rw [show a47 2 l = 1 from rfl]
  (repeat first|simp only [ww]|(apply xa;simp +decide only [go_sem];rfl;kernel_rfl))
  exact a77 (vs:=[.int .u8 _]) (by simp +decide only [go_sem]<;>rfl) (a1t hV rfl)
 ·obtain ⟨v0,p0,e0,a0,b0,t0⟩:=g 0 0 rfl (by decide)
  rw [show a47 3 l = a4s (l.getD 0 2) from rfl,e0]
  (repeat first|simp only [ww]|(apply xa;simp +decide only [go_sem,cr,a0,b0];rfl;kernel_rfl))
  exact a77 (vs:=[.int .u8 _]) (by simp +decide only [go_sem]<;>rfl) (a1t hV rfl)
 ·obtain ⟨v0,p0,e0,a0,b0,t0⟩:=g 0 0 rfl (by decide)
  rw [show a47 4 l = b29 (l.getD 0 2) from rfl,e0]
  (repeat first|simp only [ww]|(apply xa;simp +decide only [go_sem,cn,a0,b0];rfl;kernel_rfl))
  exact a77 (vs:=[.int .u8 _]) (by simp +decide only [go_sem]<;>rfl) (a1t hV rfl)
 ·rw [show a47 5 l = a6n 0 1 1 l from rfl]
  (repeat first|simp only [ww]|(apply xa;simp +decide only [go_sem,ca];rfl;kernel_rfl))
  exact a77 (vs:=[.int .u8 _]) (by simp +decide only [go_sem]<;>rfl) (a1t hV rfl)
 ·rw [show a47 6 l = b29 (a6n 0 1 1 l) from rfl]
  (repeat first|simp only [ww]|(apply xa;simp +decide only [go_sem,ca,cn];rfl;kernel_rfl))
  exact a77 (vs:=[.int .u8 _]) (by simp +decide only [go_sem]<;>rfl) (a1t hV rfl)
 ·rw [show a47 7 l = a6n 1 0 0 l from rfl]
  (repeat first|simp only [ww]|(apply xa;simp +decide only [go_sem,co];rfl;kernel_rfl))
  exact a77 (vs:=[.int .u8 _]) (by simp +decide only [go_sem]<;>rfl) (a1t hV rfl)
 ·rw [show a47 8 l = b29 (a6n 1 0 0 l) from rfl]
  (repeat first|simp only [ww]|(apply xa;simp +decide only [go_sem,co,cn];rfl;kernel_rfl))
  exact a77 (vs:=[.int .u8 _]) (by simp +decide only [go_sem]<;>rfl) (a1t hV rfl)
 ·rw [show a47 9 l = b4x 0 l from rfl]
  (repeat first|simp only [ww]|(apply xa;simp +decide only [go_sem,cx];rfl;kernel_rfl))
  exact a77 (vs:=[.int .u8 _]) (by simp +decide only [go_sem]<;>rfl) (a1t hV rfl)
 ·rw [show a47 10 l = b29 (b4x 0 l) from rfl]
  (repeat first|simp only [ww]|(apply xa;simp +decide only [go_sem,cx,cn];rfl;kernel_rfl))
  exact a77 (vs:=[.int .u8 _]) (by simp +decide only [go_sem]<;>rfl) (a1t hV rfl)
 ·obtain ⟨v0,p0,e0,a0,b0,t0⟩:=g 0 0 rfl (by decide)
  obtain ⟨v1,p1,e1,a1,b1,t1⟩:=g 1 1 rfl (by decide)
  obtain ⟨v2,p2,e2,a2,b2,t2⟩:=g 2 2 rfl (by decide)
  rw [show a47 11 l = b8t (l.getD 0 2) (l.getD 1 2) (l.getD 2 2) from rfl,e0,e1,e2]
  rcases d5o hV with htp|htp
  ·(repeat first|simp only [ww]|(apply xa;simp +decide only [go_sem,cm,a0,b0,a1,b1,a2,b2,t0,t1,t2,htp];rfl;kernel_rfl))
   exact a77 (vs:=[.int .u8 _]) (by simp +decide only [go_sem]<;>rfl) (a1t hV rfl)
  ·(repeat first|simp only [ww]|(apply xa;simp +decide only [go_sem,cm,a0,b0,a1,b1,a2,b2,t0,t1,t2,htp];rfl;kernel_rfl))
   exact a77 (vs:=[.int .u8 _]) (by simp +decide only [go_sem]<;>rfl) (a1t hV rfl)
 ·obtain ⟨v0,p0,e0,a0,b0,t0⟩:=g 0 0 rfl (by decide)
  obtain ⟨v1,p1,e1,a1,b1,t1⟩:=g 1 1 rfl (by decide)
  rw [show a47 12 l = c1a (l.getD 0 2) (l.getD 1 2) from rfl,e0,e1]
  rcases d5o hV with htp|htp
  ·(repeat first|simp only [ww]|(apply xa;simp +decide only [go_sem,ct,a0,b0,a1,b1,t0,t1,htp];rfl;kernel_rfl))
   exact a77 (vs:=[.int .u8 _]) (by simp +decide only [go_sem]<;>rfl) (a1t hV rfl)
  ·(repeat first|simp only [ww]|(apply xa;simp +decide only [go_sem,ct,a0,b0,a1,b1,t0,t1,htp];rfl;kernel_rfl))
   exact a77 (vs:=[.int .u8 _]) (by simp +decide only [go_sem]<;>rfl) (a1t hV rfl)
 ·rw [show a47 13 l = d5u l from rfl]
  (repeat first|simp only [ww]|(apply xa;simp +decide only [go_sem,cb];rfl;kernel_rfl))
  exact a77 (vs:=[.int .u8 _]) (by simp +decide only [go_sem]<;>rfl) (a1t hV rfl)
 ·rw [show a47 14 l = 2 from rfl]
  (repeat first|simp only [ww]|(apply xa;simp +decide only [go_sem];rfl;kernel_rfl))
  exact a77 (vs:=[.int .u8 _]) (by simp +decide only [go_sem]<;>rfl) (a1t hV rfl)
 ·rw [show a47 15 l = 2 from rfl]
  (repeat first|simp only [ww]|(apply xa;simp +decide only [go_sem];rfl;kernel_rfl))
  exact a77 (vs:=[.int .u8 _]) (by simp +decide only [go_sem]<;>rfl) (a1t hV rfl)
theorem c4q {l:List Nat} {V:AV} {H:a05} (hV:RA l V H) (hl:l.length < 1000000) {d:Bool} (k:Nat) (hk:k < 16):a0c L.env d (sem L.env Mf) (.func (.func 65) [] []) [.int .u8 k,V] H = some (.int .u8 (a4f k l:Nat),H,refs V):=
 a60 hV (pre:=[.int .u8 k]) (post:=[]) (by kernel_rfl) (by kernel_rfl) rfl rfl rfl (fun V H hV=>b74 k hk l V H hV hl)
end Go.MInst
