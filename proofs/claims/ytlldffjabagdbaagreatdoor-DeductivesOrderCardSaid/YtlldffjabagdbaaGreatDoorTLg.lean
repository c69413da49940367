/- Part of a proof. No condition. -/
import Derived.Test.YtlldffjabagdbaaGreatDoorTNe
import Derived.Test.YtlldffjabagdbaaGreatDoorTWo
import Derived.Test.YtlldffjabagdbaaGreatDoorPcB
import Derived.Test.YtlldffjabagdbaaGreatDoorAxF
set_option linter.unusedSimpArgs false
set_option linter.unusedVariables false
namespace Go.TInst
open Go.Proofs Go.Ax Go.Pc
set_option maxRecDepth 100000
inductive RA (l:List Nat):AV → a03 → Prop
 | imm (r:Rep):RA l (sl r (l.map u8R)) []
 | blk (c:Option Nat) (rest:List (List AV)) (hf:FlatR (l.map u8R ++ rest)):RA l (.slice 0 0 l.length c) [some (.row 1 (l.map u8R ++ rest))]
theorem a2q (l:List Nat):FlatR (l.map u8R):=FlatR.map fun _=>rfl
theorem b9p {l:List Nat} {V:AV} {H:a03} (h:RA l V H):c1e L.env (a01 H) 36 V = some (.int .i64 l.length):=by
 cases h with
 | imm r=>simp +decide only [go_sem]
 | blk c rest hf=>simp +decide only [go_sem]
theorem b9q {l:List Nat} {V:AV} {H:a03} (h:RA l V H) {i v:Nat} (hi:l[i]? = some v):∃ p,a0u L.env (a01 H) 36 V (.int .i64 i) = some p ∧ a6a L.env (a01 H) 54 p = some (.int .u8 v):=by
 have hlt:=(List.getElem?_eq_some_iff.1 hi).1
 cases h with
 | imm r=>exact ⟨_,by simp +decide only [go_sem,hi,hlt]<;>rfl,by simp +decide only [go_sem,hi,hlt]⟩
 | blk c rest hf=>
  have hg:(l.map u8R ++ rest)[i]? = some [.int .u8 v]:=by rw [List.getElem?_append_left (by simpa using hlt),List.getElem?_map,hi];rfl
  have hl2:i < (l.map u8R ++ rest).length:=by simp;omega
  exact ⟨_,by simp +decide only [go_sem,hg,hlt,hl2]<;>rfl,by simp +decide only [go_sem,hg,hlt,hl2]⟩
theorem a1h {l:List Nat} {V v:AV} {H:a03} (h:RA l V H) (hv:refs v = []):a1j false H.length v H = some (v,H):=by
 cases h with
 | imm r=>exact a9w hv
 | blk c rest hf=>
  have h1:=fun π=>a0m π hf
  have hr:∀ π,ren π v = v:=fun π=>a2m π v hv
  simp +decide only [go_sem,a1j,a62 _ _ _ _ hv,h1]
theorem d6w {l:List Nat} {V:AV} {H:a03} (h:RA l V H) (b:Nat):a15 (a01 H b) = []:=by
 cases h with
 | imm r=>rfl
 | blk c rest hf=>
  cases b with
  | zero=>exact a0s hf
  | succ b=>rfl
theorem d53 {l:List Nat} {V:AV} {H:a03} (h:RA l V H):(∀ b ∈ refs V,b < H.length) ∧ (refs V).length ≤ 1:=by
 cases h with
 | imm r=>rw [a6o];exact ⟨fun b hb=>by simp at hb,by simp⟩
 | blk c rest hf=>exact ⟨fun b hb=>by simp [refs] at hb;subst hb;simp,by simp [refs]⟩
theorem b7q {l:List Nat} {V:AV} {H:a03} (h:RA l V H) {keep:List Nat} {F F':Frm} (hk:a2e keep F = F') (hF:a0j (F'.map (·.2)) = refs V ∨ a0j (F'.map (·.2)) = []):gcD H.length keep F H = some (F',H):=by
 obtain ⟨h1,h2⟩:=d53 h
 refine e1y hk ?_ ?_ (d6w h)
 ·rcases hF with e|e<;>rw [e]
  ·exact h1
  ·intro b hb;simp at hb
 ·rcases hF with e|e<;>rw [e]
  ·omega
  ·simp
theorem a6p {l:List Nat} {V:AV} {H:a03} (h:RA l V H) {d:Bool} {g:FuncId} {pre post:List AV} {v:AV} (hx:L.env.ext g = false) (hf:(L.env.fn g).isSome = true) (hp:a0j pre = []) (hq:a0j post = []) (hv:refs v = [])
 (hr:∀ V H,RA l V H → sem L.env Mf g (pre ++ V :: post) H = some (v,H)):a0g L.env d (sem L.env Mf) (.func (.func g) [] []) (pre ++ V :: post) H = some (v,H,refs V):=by
 have hr:=hr V H h
 cases h with
 | imm r=>
  rw [a6o]
  exact a04 hx hf rfl (by simp only [List.nil_append,List.append_nil,b26,a0a,a6o,hp,hq]) (by simpa using hr) hv
 | blk c rest hfl=>
  refine a2b (b:=0) (fs:=[]) (cs:=[]) (args:=pre ++ .slice 0 0 l.length c :: post) hx hf (by simp) rfl (a0s hfl) (FlatO.row hfl) (by simp only [b26,a0a,hp,hq,b1a,List.nil_append,List.append_nil]) (args':=pre ++ .slice 0 0 l.length c :: post) ?_ hr hv
  rw [List.map_append,List.map_cons,a20]
  have e:∀ l:List AV,a0j l = [] → l.map (ren (a9o [0])) = l:=fun l hl=>a52 _ hl
  rw [e _ hp,e _ hq]
/-! ### scalars -/
theorem c8d (v:Nat):sem L.env Mf 29 [.int .u8 v] [] = some (.bool (decide (v ≤ 1)),[]):=by
 have e:decide ((v:Int) ≤ 1) = decide (v ≤ 1):=by rw [decide_eq_decide];omega
 (refine sv Tryz.f29 ?_;simp only [Tryz.f29,gS])
 (repeat first|simp only [ww]|(apply xa;simp +decide only [go_sem,e];rfl;kernel_rfl))
 (apply fqb;simp +decide only [go_sem]<;>rfl)
theorem b48 {d:Bool} (H:a03) (v:Nat):a0g L.env d (sem L.env Mf) (.func (.func 29) [] []) [.int .u8 v] H = some (.bool (decide (v ≤ 1)),H,[]):=a04 (by kernel_rfl) (by kernel_rfl) rfl rfl (c8d v) rfl
theorem d2c (v:Nat):sem L.env Mf 57 [.int .u8 v] [] = some (.int .u8 (a58 v:Nat),[]):=by
 have e:d5r (.int .u8 v) [.int .u8 2] = some (.int .u8 ((a58 v:Nat):Int)):=by
  simp only [d5r,a58]
  by_cases h:(2:Int) < v
  ·rw [if_pos h];congr 2;omega
  ·rw [if_neg h];congr 2;omega
 generalize a58 v = w at e
 (refine sv Tryz.f57 ?_;simp only [Tryz.f57,gS])
 (repeat first|simp only [ww]|(apply xa;simp +decide only [go_sem,e];rfl;kernel_rfl))
 (apply fqb;simp +decide only [go_sem]<;>rfl)
theorem a73 {d:Bool} (H:a03) (v:Nat):a0g L.env d (sem L.env Mf) (.func (.func 57) [] []) [.int .u8 v] H = some (.int .u8 (a58 v:Nat),H,[]):=a04 (by kernel_rfl) (by kernel_rfl) rfl rfl (d2c v) rfl
theorem d7f (v:Nat):sem L.env Mf 11 [.int .u8 v] [] = some (.int .u8 (a9d v:Nat),[]):=by
 have hk:=fun H=>b48 (d:=false) H v
 by_cases h:v ≤ 1
 ·have hw:IntKind.u8.wrap (1 - (v:Int)) = ((1 - v:Nat):Int):=by rw [IntWalk.u8_in _ ⟨by omega,by omega⟩];omega
  rw [show a9d v = 1 - v by simp [a9d,h]]
  (refine sv Tryz.f11 ?_;simp only [Tryz.f11,gS])
  (repeat first|simp only [ww]|(apply xa;simp +decide only [go_sem,hk,h,hw];rfl;kernel_rfl))
  (apply fqb;simp +decide only [go_sem]<;>rfl)
 ·rw [show a9d v = 2 by simp [a9d,h]]
  (refine sv Tryz.f11 ?_;simp only [Tryz.f11,gS])
  (repeat first|simp only [ww]|(apply xa;simp +decide only [go_sem,hk,h];rfl;kernel_rfl))
  (apply fqb;simp +decide only [go_sem]<;>rfl)
theorem c02 {d:Bool} (H:a03) (v:Nat):a0g L.env d (sem L.env Mf) (.func (.func 11) [] []) [.int .u8 v] H = some (.int .u8 (a9d v:Nat),H,[]):=a04 (by kernel_rfl) (by kernel_rfl) rfl rfl (d7f v) rfl
theorem d7g (s a b:Nat):sem L.env Mf 61 [.int .u8 s,.int .u8 a,.int .u8 b] [] = some (.int .u8 (b7y s a b:Nat),[]):=by
 have ha:=fun H=>a73 (d:=false) H a
 have hb:=fun H=>a73 (d:=false) H b
 by_cases h0:s = 0
 ·have c0:(s:Int) = 0:=by omega
  rw [show b7y s a b = a58 a by simp [b7y,h0]]
  (refine sv Tryz.f61 ?_;simp only [Tryz.f61,gS])
  (repeat first|simp only [ww]|(apply xa;simp +decide only [go_sem,ha,c0];rfl;kernel_rfl))
  (apply fqb;simp +decide only [go_sem]<;>rfl)
 have c0:¬ (s:Int) = 0:=by omega
 by_cases h1:s = 1
 ·have c1:(s:Int) = 1:=by omega
  rw [show b7y s a b = a58 b by simp [b7y,h1]]
  (refine sv Tryz.f61 ?_;simp only [Tryz.f61,gS])
  (repeat first|simp only [ww]|(apply xa;simp +decide only [go_sem,hb,c1];rfl;kernel_rfl))
  (apply fqb;simp +decide only [go_sem]<;>rfl)
 have c1:¬ (s:Int) = 1:=by omega
 by_cases h2:a = b
 ·have c2:(a:Int) = b:=by omega
  rw [show b7y s a b = a58 a by simp [b7y,h0,h1,h2]]
  (refine sv Tryz.f61 ?_;simp only [Tryz.f61,gS])
  (repeat first|simp only [ww]|(apply xa;simp +decide only [go_sem,ha,c0,c1,c2];rfl;kernel_rfl))
  subst h2
  (repeat first|simp only [ww]|(apply xa;simp +decide only [go_sem,ha];rfl;kernel_rfl))
  (apply fqb;simp +decide only [go_sem]<;>rfl)
 ·have c2:¬ (a:Int) = b:=by omega
  rw [show b7y s a b = 2 by simp [b7y,h0,h1,h2]]
  (refine sv Tryz.f61 ?_;simp only [Tryz.f61,gS])
  (repeat first|simp only [ww]|(apply xa;simp +decide only [go_sem,c0,c1,c2];rfl;kernel_rfl))
  (apply fqb;simp +decide only [go_sem]<;>rfl)
theorem c8c {d:Bool} (H:a03) (s a b:Nat):a0g L.env d (sem L.env Mf) (.func (.func 61) [] []) [.int .u8 s,.int .u8 a,.int .u8 b] H = some (.int .u8 (b7y s a b:Nat),H,[]):=a04 (by kernel_rfl) (by kernel_rfl) rfl rfl (d7g s a b) rfl
theorem d7e (e v:Nat):sem L.env Mf 62 [.int .u8 e,.int .u8 v] [] = some (.int .u8 (c25 e v:Nat),[]):=by
 have ha:=fun H=>a73 (d:=false) H v
 by_cases h0:e = 0
 ·have c0:(e:Int) = 0:=by omega
  rw [show c25 e v = 3 by simp [c25,h0]]
  (refine sv Tryz.f62 ?_;simp only [Tryz.f62,gS])
  (repeat first|simp only [ww]|(apply xa;simp +decide only [go_sem,c0];rfl;kernel_rfl))
  (apply fqb;simp +decide only [go_sem]<;>rfl)
 have c0:¬ (e:Int) = 0:=by omega
 by_cases h1:e = 1
 ·have c1:(e:Int) = 1:=by omega
  rw [show c25 e v = a58 v by simp [c25,h1]]
  (refine sv Tryz.f62 ?_;simp only [Tryz.f62,gS])
  (repeat first|simp only [ww]|(apply xa;simp +decide only [go_sem,ha,c1];rfl;kernel_rfl))
  (apply fqb;simp +decide only [go_sem]<;>rfl)
 have c1:¬ (e:Int) = 1:=by omega
 rw [show c25 e v = 2 by simp [c25,h0,h1]]
 (refine sv Tryz.f62 ?_;simp only [Tryz.f62,gS])
 (repeat first|simp only [ww]|(apply xa;simp +decide only [go_sem,c0,c1];rfl;kernel_rfl))
 (apply fqb;simp +decide only [go_sem]<;>rfl)
theorem c88 {d:Bool} (H:a03) (e v:Nat):a0g L.env d (sem L.env Mf) (.func (.func 62) [] []) [.int .u8 e,.int .u8 v] H = some (.int .u8 (c25 e v:Nat),H,[]):=a04 (by kernel_rfl) (by kernel_rfl) rfl rfl (d7e e v) rfl
/-! ### lists -/
theorem c5z (l:List Nat) (V:AV) (H:a03) (hV:RA l V H) (hl:l.length < 1000000) (low high:Nat):sem L.env Mf 99 [V,.int .u8 low,.int .u8 high] H = some (.int .u8 (a6j low high high l:Nat),H):=by
 have hlen:=b9p hV
 have hlow:=d53 hV
 suffices hs:∃ r:AV × a03,(r = (.int .u8 (a6j low high high l:Nat),H)) ∧ sem L.env Mf 99 [V,.int .u8 low,.int .u8 high] H = some r by
  obtain ⟨r,rfl,h3⟩:=hs
  exact h3
 (refine svE Tryz.f99 ?_;simp only [Tryz.f99,gS])
 (repeat first|simp only [ww]|(apply xa;simp +decide only [go_sem,hlen];rfl;kernel_rfl))
 refine a5k kp99_0 (fun n F H1=>∃ (i out:Nat),n = l.length - i ∧ i ≤ l.length ∧ F = [(1,.int .u8 low),(2,.int .u8 high),(7,.int .u8 out),(11,V),(12,.int .i64 l.length),(13,.int .i64 i)] ∧ H1 = H ∧ a6j low high out (l.drop i) = a6j low high high l) l.length ?_ ?_
 ·exact ⟨_,_,b7q hV (by simp +decide only [go_sem]<;>rfl) (.inl (by simp +decide only [go_sem])),0,high,rfl,Nat.zero_le _,rfl,rfl,rfl⟩
 ·rintro n F H1 ⟨i,out,rfl,hi,rfl,rfl,hout⟩
  by_cases hlt:i < l.length
  ·obtain ⟨v,hv⟩:∃ v,l[i]? = some v:=⟨_,z9e hlt⟩
   obtain ⟨p,hp1,hp2⟩:=b9q hV hv
   have hd:l.drop i = v :: l.drop (i + 1):=by rw [← List.getElem_cons_drop hlt,(List.getElem?_eq_some_iff.1 hv).2]
   rw [hd] at hout
   have c1:(i:Int) < l.length:=by omega
   have hw:=wI1 (n:=i) (by omega)
   by_cases h1:v = low
   ·have c2:(v:Int) = low:=by omega
    simp only [a6j,h1,if_true] at hout
    (repeat first|simp only [ww]|(apply xa;simp +decide only [go_sem,c1,hp1,hp2,c2];rfl;kernel_rfl))
    refine a77 (vs:=[.int .u8 low]) (r:=(_,_)) (by simp +decide only [go_sem]) (a1h hV rfl) ?_
    rw [← hout];rfl
   ·have c2:¬ (v:Int) = low:=by omega
    by_cases h2:v = high
    ·subst h2
     simp only [a6j,if_neg h1,if_true] at hout
     (repeat first|simp only [ww]|(apply xa;simp +decide only [go_sem,c1,hp1,hp2,c2,hw];rfl;kernel_rfl))
     refine a21 (l.length - (i + 1)) (by omega) ⟨_,_,b7q hV (by simp +decide only [go_sem]<;>rfl) (.inl (by simp +decide only [go_sem])),i + 1,out,rfl,hlt,rfl,rfl,hout⟩
    ·have c3:¬ (v:Int) = high:=by omega
     simp only [a6j,if_neg h1,if_neg h2] at hout
     (repeat first|simp only [ww]|(apply xa;simp +decide only [go_sem,c1,hp1,hp2,c2,c3,hw];rfl;kernel_rfl))
     refine a21 (l.length - (i + 1)) (by omega) ⟨_,_,b7q hV (by simp +decide only [go_sem]<;>rfl) (.inl (by simp +decide only [go_sem])),i + 1,2,rfl,hlt,rfl,rfl,hout⟩
  ·obtain rfl:i = l.length:=by omega
   have c1:¬ (l.length:Int) < l.length:=by omega
   rw [List.drop_length] at hout
   simp only [a6j] at hout
   (repeat first|simp only [ww]|(apply xa;simp +decide only [go_sem,c1];rfl;kernel_rfl))
   refine c0k (vs:=[.int .u8 out]) (r:=(_,_)) (by simp +decide only [go_sem]) (a1h hV rfl) ?_
   rw [← hout];rfl
theorem b2e {l:List Nat} {V:AV} {H:a03} (hV:RA l V H) (hl:l.length < 1000000) {d:Bool} (low high:Nat) {a b:Int} (ha:a = low) (hb:b = high):a0g L.env d (sem L.env Mf) (.func (.func 99) [] []) [V,.int .u8 a,.int .u8 b] H = some (.int .u8 (a6j low high high l:Nat),H,refs V):=by
 subst ha;subst hb
 exact a6p hV (pre:=[]) (post:=[.int .u8 low,.int .u8 high]) (by kernel_rfl) (by kernel_rfl) rfl rfl rfl (fun V H hV=>c5z l V H hV hl low high)
theorem d7l (l:List Nat) (V:AV) (H:a03) (hV:RA l V H) (hl:l.length < 1000000):sem L.env Mf 58 [V] H = some (.int .u8 (a6j 0 1 1 l:Nat),H):=by
 have hc:=b2e hV hl (d:=false) 0 1 (a:=0) (b:=1) rfl rfl
 generalize a6j 0 1 1 l = w at hc
 (refine sv Tryz.f58 ?_;simp only [Tryz.f58,gS])
 (repeat first|simp only [ww]|(apply xa;simp +decide only [go_sem,hc];rfl;kernel_rfl))
 refine a9b (vs:=[.int .u8 w]) (by simp +decide only [go_sem]) (a1h hV rfl)
theorem c8k {l:List Nat} {V:AV} {H:a03} (hV:RA l V H) (hl:l.length < 1000000) {d:Bool}:a0g L.env d (sem L.env Mf) (.func (.func 58) [] []) [V] H = some (.int .u8 (a6j 0 1 1 l:Nat),H,refs V):=
 a6p hV (pre:=[]) (post:=[]) (by kernel_rfl) (by kernel_rfl) rfl rfl rfl (fun V H hV=>d7l l V H hV hl)
theorem e1n (l:List Nat) (V:AV) (H:a03) (hV:RA l V H) (hl:l.length < 1000000):sem L.env Mf 59 [V] H = some (.int .u8 (a6j 1 0 0 l:Nat),H):=by
 have hc:=b2e hV hl (d:=false) 1 0 (a:=1) (b:=0) rfl rfl
 generalize a6j 1 0 0 l = w at hc
 (refine sv Tryz.f59 ?_;simp only [Tryz.f59,gS])
 (repeat first|simp only [ww]|(apply xa;simp +decide only [go_sem,hc];rfl;kernel_rfl))
 refine a9b (vs:=[.int .u8 w]) (by simp +decide only [go_sem]) (a1h hV rfl)
theorem d2d {l:List Nat} {V:AV} {H:a03} (hV:RA l V H) (hl:l.length < 1000000) {d:Bool}:a0g L.env d (sem L.env Mf) (.func (.func 59) [] []) [V] H = some (.int .u8 (a6j 1 0 0 l:Nat),H,refs V):=
 a6p hV (pre:=[]) (post:=[]) (by kernel_rfl) (by kernel_rfl) rfl rfl rfl (fun V H hV=>e1n l V H hV hl)
theorem e51 {a b:Nat} (ha:a ≤ 1) (hb:b ≤ 1):e63 .u8 (a:Int) (b:Int) = ((a ^^^ b:Nat):Int) ∧ a ^^^ b ≤ 1:=by
 have ha:a = 0 ∨ a = 1:=by omega
 have hb:b = 0 ∨ b = 1:=by omega
 rcases ha with rfl|rfl<;>rcases hb with rfl|rfl<;>exact ⟨by decide,by decide⟩
theorem d7d (l:List Nat) (V:AV) (H:a03) (hV:RA l V H) (hl:l.length < 1000000):sem L.env Mf 60 [V] H = some (.int .u8 (b5j 0 l:Nat),H):=by
 have hlen:=b9p hV
 suffices hs:∃ r:AV × a03,(r = (.int .u8 (b5j 0 l:Nat),H)) ∧ sem L.env Mf 60 [V] H = some r by
  obtain ⟨r,rfl,h3⟩:=hs
  exact h3
 (refine svE Tryz.f60 ?_;simp only [Tryz.f60,gS])
 (repeat first|simp only [ww]|(apply xa;simp +decide only [go_sem,hlen];rfl;kernel_rfl))
 refine a5k kp60_0 (fun n F H1=>∃ (i out:Nat),n = l.length - i ∧ i ≤ l.length ∧ out ≤ 1 ∧ F = [(3,.int .u8 out),(6,V),(7,.int .i64 l.length),(8,.int .i64 i)] ∧ H1 = H ∧ b5j out (l.drop i) = b5j 0 l) l.length ?_ ?_
 ·exact ⟨_,_,b7q hV (by simp +decide only [go_sem]<;>rfl) (.inl (by simp +decide only [go_sem])),0,0,rfl,Nat.zero_le _,by omega,rfl,rfl,rfl⟩
 ·rintro n F H1 ⟨i,out,rfl,hi,ho,rfl,rfl,hout⟩
  by_cases hlt:i < l.length
  ·obtain ⟨v,hv⟩:∃ v,l[i]? = some v:=⟨_,z9e hlt⟩
   obtain ⟨p,hp1,hp2⟩:=b9q hV hv
   have hd:l.drop i = v :: l.drop (i + 1):=by rw [← List.getElem_cons_drop hlt,(List.getElem?_eq_some_iff.1 hv).2]
   rw [hd] at hout
   have c1:(i:Int) < l.length:=by omega
   have hw:=wI1 (n:=i) (by omega)
   have hk:=fun H=>b48 (d:=false) H v
   by_cases h1:v ≤ 1
   ·obtain ⟨hx,hx1⟩:=e51 ho h1
    simp only [b5j,if_pos h1] at hout
    (repeat first|simp only [ww]|(apply xa;simp +decide only [go_sem,c1,hp1,hp2,hk,h1,hx,hw];rfl;kernel_rfl))
    refine a21 (l.length - (i + 1)) (by omega) ⟨_,_,b7q hV (by simp +decide only [go_sem]<;>rfl) (.inl (by simp +decide only [go_sem])),i + 1,out ^^^ v,rfl,hlt,hx1,rfl,rfl,hout⟩
   ·simp only [b5j,if_neg h1] at hout
    (repeat first|simp only [ww]|(apply xa;simp +decide only [go_sem,c1,hp1,hp2,hk,h1];rfl;kernel_rfl))
    refine a77 (vs:=[.int .u8 2]) (r:=(_,_)) (by simp +decide only [go_sem]) (a1h hV rfl) ?_
    rw [← hout];rfl
  ·obtain rfl:i = l.length:=by omega
   have c1:¬ (l.length:Int) < l.length:=by omega
   rw [List.drop_length] at hout
   simp only [b5j] at hout
   (repeat first|simp only [ww]|(apply xa;simp +decide only [go_sem,c1];rfl;kernel_rfl))
   refine c0k (vs:=[.int .u8 out]) (r:=(_,_)) (by simp +decide only [go_sem]) (a1h hV rfl) ?_
   rw [← hout];rfl
theorem c87 {l:List Nat} {V:AV} {H:a03} (hV:RA l V H) (hl:l.length < 1000000) {d:Bool}:a0g L.env d (sem L.env Mf) (.func (.func 60) [] []) [V] H = some (.int .u8 (b5j 0 l:Nat),H,refs V):=
 a6p hV (pre:=[]) (post:=[]) (by kernel_rfl) (by kernel_rfl) rfl rfl rfl (fun V H hV=>d7d l V H hV hl)
set_option maxHeartbeats 200000000
def b5o (p:Nat → Bool) (l:List Nat):Int:=match l.findIdx? p with
 | some i=>i
 | none=>-1
theorem c3u {p:Nat → Bool} {l:List Nat} {i v:Nat} (hv:l[i]? = some v) (hp:p v = true) (hb:∀ (j w:Nat),j < i → l[j]? = some w → p w = false):b5o p l = i:=by
 have hlt:=(List.getElem?_eq_some_iff.1 hv).1
 have:l.findIdx? p = some i:=by
  rw [List.findIdx?_eq_some_iff_getElem]
  refine ⟨hlt,by rw [(List.getElem?_eq_some_iff.1 hv).2];exact hp,fun j hj=>?_⟩
  have:=hb j _ hj (z9e (by omega))
  simp [this]
 unfold b5o;rw [this]
theorem c0e {p:Nat → Bool} {l:List Nat} (hb:∀ (j w:Nat),j < l.length → l[j]? = some w → p w = false):b5o p l = -1:=by
 have:l.findIdx? p = none:=by
  rw [List.findIdx?_eq_none_iff]
  intro x hx
  obtain ⟨j,hj⟩:=List.mem_iff_getElem?.1 hx
  exact hb j x (List.getElem?_eq_some_iff.1 hj).1 hj
 unfold b5o;rw [this]
theorem c90 (p:Nat → Bool) (l:List Nat):decide (0 ≤ b5o p l) = l.any p:=by
 unfold b5o
 cases h:l.findIdx? p with
 | none=>
  have:=List.findIdx?_eq_none_iff.1 h
  have e:l.any p = false:=by rw [List.any_eq_false];intro x hx;simp [this x hx]
  rw [e];rfl
 | some i=>
  obtain ⟨hi,hp,_⟩:=List.findIdx?_eq_some_iff_getElem.1 h
  have e:l.any p = true:=List.any_eq_true.2 ⟨_,List.getElem_mem hi,hp⟩
  rw [e];simp
theorem d2h (l:List Nat) (V:AV) (H:a03) (hV:RA l V H) (hl:l.length < 1000000) (f:AV) (p:Nat → Bool) (hf0:refs f = []) (hf:∀ (d:Bool) (H:a03) (v:Nat),a0g L.env d (sem L.env Mf) f [.int .u8 v] H = some (.bool (p v),H,[])) :
 sem L.env Mf 98 [V,f] H = some (.int .i64 (b5o p l),H):=by
 have hlen:=b9p hV
 suffices hs:∃ r:AV × a03,(r = (.int .i64 (b5o p l),H)) ∧ sem L.env Mf 98 [V,f] H = some r by
  obtain ⟨r,rfl,h3⟩:=hs
  exact h3
 (refine svE Tryz.f98 ?_;simp only [Tryz.f98,gS])
 (repeat first|simp only [ww]|(apply xa;simp +decide only [go_sem,hlen];rfl;kernel_rfl))
 refine a5k kp98_0 (fun n F H1=>∃ (i:Nat),n = l.length - i ∧ i ≤ l.length ∧ F = [(0,V),(1,f),(7,.int .i64 l.length),(8,.int .i64 i)] ∧ H1 = H ∧ ∀ (j w:Nat),j < i → l[j]? = some w → p w = false) l.length ?_ ?_
 ·exact ⟨_,_,b7q hV (by simp +decide only [go_sem]<;>rfl) (.inl (by simp +decide only [go_sem,hf0])),0,rfl,Nat.zero_le _,rfl,rfl,fun j w hj=>by omega⟩
 ·rintro n F H1 ⟨i,rfl,hi,rfl,rfl,hb⟩
  by_cases hlt:i < l.length
  ·obtain ⟨v,hv⟩:∃ v,l[i]? = some v:=⟨_,z9e hlt⟩
   obtain ⟨q,hp1,hp2⟩:=b9q hV hv
   have c1:(i:Int) < l.length:=by omega
   have hw:=wI1 (n:=i) (by omega)
   have hc:=fun d H=>hf d H v
   cases hpv:p v with
   | true=>
    rw [hpv] at hc
    (repeat first|simp only [ww]|(apply xa;simp +decide only [go_sem,c1,hp1,hp2,hc];rfl;kernel_rfl))
    refine a77 (vs:=[.int .i64 i]) (r:=(_,_)) (by simp +decide only [go_sem]) (a1h hV rfl) ?_
    rw [c3u hv hpv hb];rfl
   | false=>
    rw [hpv] at hc
    (repeat first|simp only [ww]|(apply xa;simp +decide only [go_sem,c1,hp1,hp2,hc,hw];rfl;kernel_rfl))
    refine a21 (l.length - (i + 1)) (by omega) ⟨_,_,b7q hV (by simp +decide only [go_sem]<;>rfl) (.inl (by simp +decide only [go_sem,hf0])),i + 1,rfl,hlt,rfl,rfl,fun j w hj hjw=>?_⟩
    by_cases hji:j = i
    ·subst hji;rw [hv] at hjw;cases hjw;exact hpv
    ·exact hb j w (by omega) hjw
  ·obtain rfl:i = l.length:=by omega
   have c1:¬ (l.length:Int) < l.length:=by omega
   (repeat first|simp only [ww]|(apply xa;simp +decide only [go_sem,c1];rfl;kernel_rfl))
   refine a77 (vs:=[.int .i64 (-1)]) (r:=(_,_)) (by simp +decide only [go_sem]) (a1h hV rfl) ?_
   rw [c0e hb];rfl
theorem b6f {l:List Nat} {V:AV} {H:a03} (hV:RA l V H) (hl:l.length < 1000000) {d:Bool} (f:AV) (p:Nat → Bool) (hf0:refs f = []) (hf:∀ (d:Bool) (H:a03) (v:Nat),a0g L.env d (sem L.env Mf) f [.int .u8 v] H = some (.bool (p v),H,[])) :
 a0g L.env d (sem L.env Mf) (.func (.func 98) [] []) [V,f] H = some (.int .i64 (b5o p l),H,refs V):=
 a6p hV (pre:=[]) (post:=[f]) (by kernel_rfl) (by kernel_rfl) rfl (by simp only [a0a,a54,hf0,List.append_nil]) rfl (fun V H hV=>d2h l V H hV hl f p hf0 hf)
theorem c06 (l:List Nat) (V:AV) (H:a03) (hV:RA l V H) (hl:l.length < 1000000) (f:AV) (p:Nat → Bool) (hf0:refs f = []) (hf:∀ (d:Bool) (H:a03) (v:Nat),a0g L.env d (sem L.env Mf) f [.int .u8 v] H = some (.bool (p v),H,[])) :
 sem L.env Mf 54 [V,f] H = some (.bool (l.any p),H):=by
 have hc:=fun d=>b6f hV hl (d:=d) f p hf0 hf
 have he:=c90 p l
 generalize b5o p l = x at hc he
 rw [← he]
 (refine sv Tryz.f54 ?_;simp only [Tryz.f54,gS])
 (repeat first|simp only [ww]|(apply xa;simp +decide only [go_sem,hc];rfl;kernel_rfl))
 refine a9b (vs:=[.bool _]) (by simp +decide only [go_sem]<;>rfl) (a1h hV rfl)
theorem c2b {l:List Nat} {V:AV} {H:a03} (hV:RA l V H) (hl:l.length < 1000000) {d:Bool} (f:AV) (p:Nat → Bool) (hf0:refs f = []) (hf:∀ (d:Bool) (H:a03) (v:Nat),a0g L.env d (sem L.env Mf) f [.int .u8 v] H = some (.bool (p v),H,[])) :
 a0g L.env d (sem L.env Mf) (.func (.func 54) [] []) [V,f] H = some (.bool (l.any p),H,refs V):=
 a6p hV (pre:=[]) (post:=[f]) (by kernel_rfl) (by kernel_rfl) rfl (by simp only [a0a,a54,hf0,List.append_nil]) rfl (fun V H hV=>c06 l V H hV hl f p hf0 hf)
theorem d7j (l:List Nat) (V:AV) (H:a03) (hV:RA l V H) (hl:l.length < 1000000) (w:Nat):sem L.env Mf 158 [V,.int .u8 w] H = some (.int .i64 (b5o (fun v=>decide (w = v)) l),H):=by
 have hlen:=b9p hV
 suffices hs:∃ r:AV × a03,(r = (.int .i64 (b5o (fun v=>decide (w = v)) l),H)) ∧ sem L.env Mf 158 [V,.int .u8 w] H = some r by
  obtain ⟨r,rfl,h3⟩:=hs
  exact h3
 (refine svE Tryz.f158 ?_;simp only [Tryz.f158,gS])
 (repeat first|simp only [ww]|(apply xa;simp +decide only [go_sem,hlen];rfl;kernel_rfl))
 refine a5k kp158_0 (fun n F H1=>∃ (i:Nat),n = l.length - i ∧ i ≤ l.length ∧ F = [(0,V),(1,.int .u8 w),(7,.int .i64 l.length),(8,.int .i64 i)] ∧ H1 = H ∧ ∀ (j v:Nat),j < i → l[j]? = some v → decide (w = v) = false) l.length ?_ ?_
 ·exact ⟨_,_,b7q hV (by simp +decide only [go_sem]<;>rfl) (.inl (by simp +decide only [go_sem])),0,rfl,Nat.zero_le _,rfl,rfl,fun j w hj=>by omega⟩
 ·rintro n F H1 ⟨i,rfl,hi,rfl,rfl,hb⟩
  by_cases hlt:i < l.length
  ·obtain ⟨v,hv⟩:∃ v,l[i]? = some v:=⟨_,z9e hlt⟩
   obtain ⟨q,hp1,hp2⟩:=b9q hV hv
   have c1:(i:Int) < l.length:=by omega
   have hw:=wI1 (n:=i) (by omega)
   by_cases hwv:w = v
   ·subst hwv
    (repeat first|simp only [ww]|(apply xa;simp +decide only [go_sem,c1,hp1,hp2];rfl;kernel_rfl))
    refine a77 (vs:=[.int .i64 i]) (r:=(_,_)) (by simp +decide only [go_sem]) (a1h hV rfl) ?_
    rw [c3u hv (by simp) hb];rfl
   ·have c2:¬ (w:Int) = v:=by omega
    (repeat first|simp only [ww]|(apply xa;simp +decide only [go_sem,c1,hp1,hp2,c2,hw];rfl;kernel_rfl))
    refine a21 (l.length - (i + 1)) (by omega) ⟨_,_,b7q hV (by simp +decide only [go_sem]<;>rfl) (.inl (by simp +decide only [go_sem])),i + 1,rfl,hlt,rfl,rfl,fun j u hj hju=>?_⟩
    by_cases hji:j = i
    ·subst hji;rw [hv] at hju;cases hju;simpa using hwv
    ·exact hb j u (by omega) hju
  ·obtain rfl:i = l.length:=by omega
   have c1:¬ (l.length:Int) < l.length:=by omega
   (repeat first|simp only [ww]|(apply xa;simp +decide only [go_sem,c1];rfl;kernel_rfl))
   refine a77 (vs:=[.int .i64 (-1)]) (r:=(_,_)) (by simp +decide only [go_sem]) (a1h hV rfl) ?_
   rw [c0e hb];rfl
theorem c8f {l:List Nat} {V:AV} {H:a03} (hV:RA l V H) (hl:l.length < 1000000) {d:Bool} (w:Nat):a0g L.env d (sem L.env Mf) (.func (.func 158) [] []) [V,.int .u8 w] H = some (.int .i64 (b5o (fun v=>decide (w = v)) l),H,refs V):=
 a6p hV (pre:=[]) (post:=[.int .u8 w]) (by kernel_rfl) (by kernel_rfl) rfl rfl rfl (fun V H hV=>d7j l V H hV hl w)
theorem d2i (l:List Nat) (V:AV) (H:a03) (hV:RA l V H) (hl:l.length < 1000000) (w:Nat):sem L.env Mf 140 [V,.int .u8 w] H = some (.bool (decide (w ∈ l)),H):=by
 have hc:=fun d=>c8f hV hl (d:=d) w
 have he:=c90 (fun v=>decide (w = v)) l
 have hm:(l.any fun v=>decide (w = v)) = decide (w ∈ l):=by
  rw [Bool.eq_iff_iff,List.any_eq_true,decide_eq_true_eq]
  exact ⟨fun ⟨x,hx,h⟩=>by rw [of_decide_eq_true h];exact hx,fun h=>⟨w,h,by simp⟩⟩
 rw [hm] at he
 generalize b5o (fun v=>decide (w = v)) l = x at hc he
 rw [← he]
 (refine sv Tryz.f140 ?_;simp only [Tryz.f140,gS])
 (repeat first|simp only [ww]|(apply xa;simp +decide only [go_sem,hc];rfl;kernel_rfl))
 refine a9b (vs:=[.bool _]) (by simp +decide only [go_sem]<;>rfl) (a1h hV rfl)
theorem b6g {l:List Nat} {V:AV} {H:a03} (hV:RA l V H) (hl:l.length < 1000000) {d:Bool} (w:Nat) {a:Int} (ha:a = w):a0g L.env d (sem L.env Mf) (.func (.func 140) [] []) [V,.int .u8 a] H = some (.bool (decide (w ∈ l)),H,refs V):=by
 subst ha
 exact a6p hV (pre:=[]) (post:=[.int .u8 w]) (by kernel_rfl) (by kernel_rfl) rfl rfl rfl (fun V H hV=>d2i l V H hV hl w)
theorem d2j (l:List Nat) (V:AV) (H:a03) (hV:RA l V H) (hl:l.length < 1000000):sem L.env Mf 103 [V] H = some (.bool (decide (0 ∈ l) && decide (1 ∈ l)),H):=by
 have h0:=fun d=>b6g hV hl (d:=d) 0 (a:=0) rfl
 have h1:=fun d=>b6g hV hl (d:=d) 1 (a:=1) rfl
 generalize decide (1 ∈ l) = y at h1
 cases hx:decide (0 ∈ l) with
 | true=>
  rw [hx] at h0
  (refine sv Tryz.f103 ?_;simp only [Tryz.f103,gS])
  (repeat first|simp only [ww]|(apply xa;simp +decide only [go_sem,h0,h1];rfl;kernel_rfl))
  refine a9b (vs:=[.bool y]) (by simp +decide only [go_sem]) (a1h hV rfl)
 | false=>
  rw [hx] at h0
  (refine sv Tryz.f103 ?_;simp only [Tryz.f103,gS])
  (repeat first|simp only [ww]|(apply xa;simp +decide only [go_sem,h0,h1];rfl;kernel_rfl))
  refine a9b (vs:=[.bool false]) (by simp +decide only [go_sem]) (a1h hV rfl)
theorem c5j {l:List Nat} {V:AV} {H:a03} (hV:RA l V H) (hl:l.length < 1000000) {d:Bool}:a0g L.env d (sem L.env Mf) (.func (.func 103) [] []) [V] H = some (.bool (decide (0 ∈ l) && decide (1 ∈ l)),H,refs V):=
 a6p hV (pre:=[]) (post:=[]) (by kernel_rfl) (by kernel_rfl) rfl rfl rfl (fun V H hV=>d2j l V H hV hl)
theorem c0v (v:Nat):sem L.env Mf 101 [.int .u8 v] [] = some (.int .u8 (a4t v:Nat),[]):=by
 by_cases h:3 < v
 ·have c:(3:Int) < v:=by omega
  rw [show a4t v = 2 by simp [a4t,h]]
  (refine sv Tryz.f101 ?_;simp only [Tryz.f101,gS])
  (repeat first|simp only [ww]|(apply xa;simp +decide only [go_sem,c];rfl;kernel_rfl))
  (apply fqb;simp +decide only [go_sem]<;>rfl)
 ·have c:¬ (3:Int) < v:=by omega
  rw [show a4t v = v by simp [a4t,h]]
  (refine sv Tryz.f101 ?_;simp only [Tryz.f101,gS])
  (repeat first|simp only [ww]|(apply xa;simp +decide only [go_sem,c];rfl;kernel_rfl))
  (apply fqb;simp +decide only [go_sem]<;>rfl)
theorem d2l (v:Nat):sem L.env Mf 100 [.int .u8 v] [] = some (.bool (decide (a4t v = 2)),[]):=by
 have hc:∀ (d:Bool) H,a0g L.env d (sem L.env Mf) (.func (.func 101) [] []) [.int .u8 v] H = some (.int .u8 (a4t v:Nat),H,[]):=fun d H=>a04 (by kernel_rfl) (by kernel_rfl) rfl rfl (c0v v) rfl
 have e:decide (((a4t v:Nat):Int) = 2) = decide (a4t v = 2):=by rw [decide_eq_decide];omega
 generalize a4t v = w at hc e
 (refine sv Tryz.f100 ?_;simp only [Tryz.f100,gS])
 (repeat first|simp only [ww]|(apply xa;simp +decide only [go_sem,hc,e];rfl;kernel_rfl))
 (apply fqb;simp +decide only [go_sem]<;>rfl)
theorem d2k (v:Nat):sem L.env Mf 102 [.int .u8 v] [] = some (.bool (decide (v ≠ 3)),[]):=by
 have e:(!decide ((v:Int) = 3)) = decide (v ≠ 3):=by
  by_cases h:v = 3
  ·subst h;rfl
  ·have:¬ (v:Int) = 3:=by omega
   simp [h,this]
 (refine sv Tryz.f102 ?_;simp only [Tryz.f102,gS])
 (repeat first|simp only [ww]|(apply xa;simp +decide only [go_sem,e];rfl;kernel_rfl))
 (apply fqb;simp +decide only [go_sem]<;>rfl)
theorem d7k (l:List Nat) (V:AV) (H:a03) (hV:RA l V H) (hl:l.length < 1000000):sem L.env Mf 63 [V] H = some (.int .u8 (d5b l:Nat),H):=by
 have h1:∀ (d:Bool) (H:a03) (v:Nat),a0g L.env d (sem L.env Mf) (.func (.func 100) [] []) [.int .u8 v] H = some (.bool (decide (a4t v = 2)),H,[]):=fun d H v=>a04 (by kernel_rfl) (by kernel_rfl) rfl rfl (d2l v) rfl
 have h2:∀ (d:Bool) (H:a03) (v:Nat),a0g L.env d (sem L.env Mf) (.func (.func 102) [] []) [.int .u8 v] H = some (.bool (decide (v ≠ 3)),H,[]):=fun d H v=>a04 (by kernel_rfl) (by kernel_rfl) rfl rfl (d2k v) rfl
 have c1:=fun d=>b6f hV hl (d:=d) _ (fun v=>decide (v ≠ 3)) rfl h2
 have c2:=fun d=>c2b hV hl (d:=d) _ (fun v=>decide (a4t v = 2)) rfl h1
 have c3:=fun d=>c5j hV hl (d:=d)
 unfold d5b
 unfold b5o at c1
 cases hf:l.findIdx? (fun v=>decide (v ≠ 3)) with
 | none=>
  rw [hf] at c1
  dsimp only at c1 ⊢
  (refine sv Tryz.f63 ?_;simp only [Tryz.f63,gS])
  (repeat first|simp only [ww]|(apply xa;simp +decide only [go_sem,c1];rfl;kernel_rfl))
  refine a9b (vs:=[.int .u8 3]) (by simp +decide only [go_sem]) (a1h hV rfl)
 | some i=>
  rw [hf] at c1
  dsimp only at c1 ⊢
  have hi:=(List.findIdx?_eq_some_iff_getElem.1 hf).1
  obtain ⟨v,hv⟩:∃ v,l[i]? = some v:=⟨_,z9e hi⟩
  obtain ⟨q,hp1,hp2⟩:=b9q hV hv
  have hg:l.getD i 0 = v:=by rw [List.getD,hv];rfl
  have c0:¬ (i:Int) < 0:=by omega
  rw [hg]
  generalize (decide (0 ∈ l) && decide (1 ∈ l)) = x at c3 ⊢
  generalize (l.any fun v=>decide (a4t v = 2)) = y at c2 ⊢
  cases x with
  | true=>
   (refine sv Tryz.f63 ?_;simp only [Tryz.f63,gS])
   (repeat first|simp only [ww]|(apply xa;simp +decide only [go_sem,c1,c2,c3,c0];rfl;kernel_rfl))
   refine a9b (vs:=[.int .u8 2]) (by simp +decide only [go_sem]) (a1h hV rfl)
  | false=>cases y with
   | true=>
    (refine sv Tryz.f63 ?_;simp only [Tryz.f63,gS])
    (repeat first|simp only [ww]|(apply xa;simp +decide only [go_sem,c1,c2,c3,c0];rfl;kernel_rfl))
    refine a9b (vs:=[.int .u8 2]) (by simp +decide only [go_sem]) (a1h hV rfl)
   | false=>
    (refine sv Tryz.f63 ?_;simp only [Tryz.f63,gS])
    (repeat first|simp only [ww]|(apply xa;simp +decide only [go_sem,c1,c2,c3,c0,hp1,hp2];rfl;kernel_rfl))
    refine a9b (vs:=[.int .u8 v]) (by simp +decide only [go_sem]) (a1h hV rfl)
theorem c8j {l:List Nat} {V:AV} {H:a03} (hV:RA l V H) (hl:l.length < 1000000) {d:Bool}:a0g L.env d (sem L.env Mf) (.func (.func 63) [] []) [V] H = some (.int .u8 (d5b l:Nat),H,refs V):=
 a6p hV (pre:=[]) (post:=[]) (by kernel_rfl) (by kernel_rfl) rfl rfl rfl (fun V H hV=>d7k l V H hV hl)
theorem d52 {l:List Nat} {V:AV} {H:a03} (h:RA l V H):a0f V = [] ∨ a0f V = [0]:=by
 cases h with
 | imm r=>exact .inl (by simp only [go_sem])
 | blk c rest hf=>exact .inr rfl
theorem d6v {l:List Nat} {V:AV} {H:a03} (h:RA l V H) {i v:Nat} (hi:l[i]? = some v):∃ p,a0u L.env (a01 H) 36 V (.int .i64 i) = some p ∧ a6a L.env (a01 H) 54 p = some (.int .u8 v) ∧ a0f p = a0f V:=by
 have hlt:=(List.getElem?_eq_some_iff.1 hi).1
 cases h with
 | imm r=>exact ⟨_,by simp +decide only [go_sem,hi,hlt]<;>rfl,by simp +decide only [go_sem,hi,hlt],by simp +decide only [go_sem]⟩
 | blk c rest hf=>
  have hg:(l.map u8R ++ rest)[i]? = some [.int .u8 v]:=by rw [List.getElem?_append_left (by simpa using hlt),List.getElem?_map,hi];rfl
  have hl2:i < (l.map u8R ++ rest).length:=by simp;omega
  exact ⟨_,by simp +decide only [go_sem,hg,hlt,hl2]<;>rfl,by simp +decide only [go_sem,hg,hlt,hl2],by simp +decide only [go_sem]⟩
theorem b88 (k:Nat) (hk:k < 16) (l:List Nat) (V:AV) (H:a03) (hV:RA l V H) (hl:l.length < 1000000):sem L.env Mf 25 [.int .u8 k,V] H = some (.int .u8 (a68 k l:Nat),H):=by
 have hf:=fun d H=>b6q (d:=d) H k hk
 have hlen:=b9p hV
 by_cases hlo:l.length < a1m k
 ·have c1:(l.length:Int) < a1m k:=by omega
  rw [show a68 k l = 2 by simp [a68,hlo]]
  (refine sv Tryz.f25 ?_;simp only [Tryz.f25,gS])
  (repeat first|simp only [ww]|(apply xa;simp +decide only [go_sem,hf,c1,hlen];rfl;kernel_rfl))
  refine a9b (vs:=[.int .u8 2]) (by simp +decide only [go_sem]) (a1h hV rfl)
 have c1:¬ (l.length:Int) < a1m k:=by omega
 by_cases hhi:a1s k < l.length
 ·have c2:(a1s k:Int) < l.length:=by omega
  rw [show a68 k l = 2 by simp [a68,hhi]]
  (refine sv Tryz.f25 ?_;simp only [Tryz.f25,gS])
  (repeat first|simp only [ww]|(apply xa;simp +decide only [go_sem,hf,c1,c2,hlen];rfl;kernel_rfl))
  refine a9b (vs:=[.int .u8 2]) (by simp +decide only [go_sem]) (a1h hV rfl)
 have c2:¬ (a1s k:Int) < l.length:=by omega
 rw [show a68 k l = a4c k l by unfold a68;rw [if_neg (by omega)]]
 have lo:a1m k ≤ l.length:=by omega
 clear hlo hhi
 have g:∀ (i:Nat) (j:Int),j = i → i < a1m k → ∃ v p,l.getD i 2 = v ∧ a0u L.env (a01 H) 36 V (.int .i64 j) = some p ∧ a6a L.env (a01 H) 54 p = some (.int .u8 v) ∧ a0f p = a0f V:=by
  intro i j hj hi
  subst hj
  obtain ⟨v,hv⟩:∃ v,l[i]? = some v:=⟨_,z9e (by omega)⟩
  obtain ⟨p,h1,h2,h3⟩:=d6v hV hv
  exact ⟨v,p,by rw [List.getD,hv];rfl,h1,h2,h3⟩
 have ca:=fun (d:Bool)=>c8k hV hl (d:=d)
 have co:=fun (d:Bool)=>d2d hV hl (d:=d)
 have cx:=fun (d:Bool)=>c87 hV hl (d:=d)
 have cb:=fun (d:Bool)=>c8j hV hl (d:=d)
 have cn:=fun (d:Bool) (H:a03) (v:Nat)=>c02 (d:=d) H v
 have cr:=fun (d:Bool) (H:a03) (v:Nat)=>a73 (d:=d) H v
 have cm:=fun (d:Bool) (H:a03) (s a b:Nat)=>c8c (d:=d) H s a b
 have ct:=fun (d:Bool) (H:a03) (a b:Nat)=>c88 (d:=d) H a b
 have hkk:k = 0 ∨ k = 1 ∨ k = 2 ∨ k = 3 ∨ k = 4 ∨ k = 5 ∨ k = 6 ∨ k = 7 ∨ k = 8 ∨ k = 9 ∨ k = 10 ∨ k = 11 ∨ k = 12 ∨ k = 13 ∨ k = 14 ∨ k = 15:=by omega
 (refine sv Tryz.f25 ?_;simp only [Tryz.f25,gS])
 (repeat first|simp only [ww]|(apply xa;simp +decide only [go_sem,hf,c1,c2,hlen];rfl;kernel_rfl))
 rcases hkk with rfl|rfl|rfl|rfl|rfl|rfl|rfl|rfl|rfl|rfl|rfl|rfl|rfl|rfl|rfl|rfl
 ·rw [show a4c 0 l = 2 from rfl]
  (repeat first|simp only [ww]|(apply xa;simp +decide only [go_sem];rfl;kernel_rfl))
  exact a9b (vs:=[.int .u8 _]) (by simp +decide only [go_sem]<;>rfl) (a1h hV rfl)
 ·rw [show a4c 1 l = 0 from rfl]
  (repeat first|simp only [ww]|(apply xa;simp +decide only [go_sem];rfl;kernel_rfl))
  exact a9b (vs:=[.int .u8 _]) (by simp +decide only [go_sem]<;>rfl) (a1h hV rfl)
 ·rw [show a4c 2 l = 1 from rfl]
  (repeat first|simp only [ww]|(apply xa;simp +decide only [go_sem];rfl;kernel_rfl))
  exact a9b (vs:=[.int .u8 _]) (by simp +decide only [go_sem]<;>rfl) (a1h hV rfl)
 ·obtain ⟨v0,p0,e0,a0,b0,t0⟩:=g 0 0 rfl (by decide)
  rw [show a4c 3 l = a58 (l.getD 0 2) from rfl,e0]
  (repeat first|simp only [ww]|(apply xa;simp +decide only [go_sem,cr,a0,b0];rfl;kernel_rfl))
  exact a9b (vs:=[.int .u8 _]) (by simp +decide only [go_sem]<;>rfl) (a1h hV rfl)
 ·obtain ⟨v0,p0,e0,a0,b0,t0⟩:=g 0 0 rfl (by decide)
  rw [show a4c 4 l = a9d (l.getD 0 2) from rfl,e0]
  (repeat first|simp only [ww]|(apply xa;simp +decide only [go_sem,cn,a0,b0];rfl;kernel_rfl))
  exact a9b (vs:=[.int .u8 _]) (by simp +decide only [go_sem]<;>rfl) (a1h hV rfl)
 ·rw [show a4c 5 l = a6j 0 1 1 l from rfl]
  (repeat first|simp only [ww]|(apply xa;simp +decide only [go_sem,ca];rfl;kernel_rfl))
  exact a9b (vs:=[.int .u8 _]) (by simp +decide only [go_sem]<;>rfl) (a1h hV rfl)
 ·rw [show a4c 6 l = a9d (a6j 0 1 1 l) from rfl]
  (repeat first|simp only [ww]|(apply xa;simp +decide only [go_sem,ca,cn];rfl;kernel_rfl))
  exact a9b (vs:=[.int .u8 _]) (by simp +decide only [go_sem]<;>rfl) (a1h hV rfl)
 ·rw [show a4c 7 l = a6j 1 0 0 l from rfl]
  (repeat first|simp only [ww]|(apply xa;simp +decide only [go_sem,co];rfl;kernel_rfl))
  exact a9b (vs:=[.int .u8 _]) (by simp +decide only [go_sem]<;>rfl) (a1h hV rfl)
 ·rw [show a4c 8 l = a9d (a6j 1 0 0 l) from rfl]
  (repeat first|simp only [ww]|(apply xa;simp +decide only [go_sem,co,cn];rfl;kernel_rfl))
  exact a9b (vs:=[.int .u8 _]) (by simp +decide only [go_sem]<;>rfl) (a1h hV rfl)
 ·rw [show a4c 9 l = b5j 0 l from rfl]
  (repeat first|simp only [ww]|(apply xa;simp +decide only [go_sem,cx];rfl;kernel_rfl))
  exact a9b (vs:=[.int .u8 _]) (by simp +decide only [go_sem]<;>rfl) (a1h hV rfl)
 ·rw [show a4c 10 l = a9d (b5j 0 l) from rfl]
  (repeat first|simp only [ww]|(apply xa;simp +decide only [go_sem,cx,cn];rfl;kernel_rfl))
  exact a9b (vs:=[.int .u8 _]) (by simp +decide only [go_sem]<;>rfl) (a1h hV rfl)
 ·obtain ⟨v0,p0,e0,a0,b0,t0⟩:=g 0 0 rfl (by decide)
  obtain ⟨v1,p1,e1,a1,b1,t1⟩:=g 1 1 rfl (by decide)
  obtain ⟨v2,p2,e2,a2,b2,t2⟩:=g 2 2 rfl (by decide)
  rw [show a4c 11 l = b7y (l.getD 0 2) (l.getD 1 2) (l.getD 2 2) from rfl,e0,e1,e2]
  rcases d52 hV with htp|htp
  ·(repeat first|simp only [ww]|(apply xa;simp +decide only [go_sem,cm,a0,b0,a1,b1,a2,b2,t0,t1,t2,htp];rfl;kernel_rfl))
   exact a9b (vs:=[.int .u8 _]) (by simp +decide only [go_sem]<;>rfl) (a1h hV rfl)
  ·(repeat first|simp only [ww]|(apply xa;simp +decide only [go_sem,cm,a0,b0,a1,b1,a2,b2,t0,t1,t2,htp];rfl;kernel_rfl))
   exact a9b (vs:=[.int .u8 _]) (by simp +decide only [go_sem]<;>rfl) (a1h hV rfl)
 ·obtain ⟨v0,p0,e0,a0,b0,t0⟩:=g 0 0 rfl (by decide)
  obtain ⟨v1,p1,e1,a1,b1,t1⟩:=g 1 1 rfl (by decide)
  rw [show a4c 12 l = c25 (l.getD 0 2) (l.getD 1 2) from rfl,e0,e1]
  rcases d52 hV with htp|htp
  ·(repeat first|simp only [ww]|(apply xa;simp +decide only [go_sem,ct,a0,b0,a1,b1,t0,t1,htp];rfl;kernel_rfl))
   exact a9b (vs:=[.int .u8 _]) (by simp +decide only [go_sem]<;>rfl) (a1h hV rfl)
  ·(repeat first|simp only [ww]|(apply xa;simp +decide only [go_sem,ct,a0,b0,a1,b1,t0,t1,htp];rfl;kernel_rfl))
   exact a9b (vs:=[.int .u8 _]) (by simp +decide only [go_sem]<;>rfl) (a1h hV rfl)
 ·rw [show a4c 13 l = d5b l from rfl]
  (repeat first|simp only [ww]|(apply xa;simp +decide only [go_sem,cb];rfl;kernel_rfl))
  exact a9b (vs:=[.int .u8 _]) (by simp +decide only [go_sem]<;>rfl) (a1h hV rfl)
 ·rw [show a4c 14 l = 2 from rfl]
  (repeat first|simp only [ww]|(apply xa;simp +decide only [go_sem];rfl;kernel_rfl))
  exact a9b (vs:=[.int .u8 _]) (by simp +decide only [go_sem]<;>rfl) (a1h hV rfl)
 ·rw [show a4c 15 l = 2 from rfl]
  (repeat first|simp only [ww]|(apply xa;simp +decide only [go_sem];rfl;kernel_rfl))
  exact a9b (vs:=[.int .u8 _]) (by simp +decide only [go_sem]<;>rfl) (a1h hV rfl)
end Go.TInst
