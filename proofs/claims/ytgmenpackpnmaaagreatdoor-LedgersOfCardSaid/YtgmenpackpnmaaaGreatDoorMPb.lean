/- Part of a proof. No condition. -/
import Derived.Test.YtgmenpackpnmaaaGreatDoorMPa
import Derived.Test.YtgmenpackpnmaaaGreatDoorPcC
import Derived.Test.YtgmenpackpnmaaaGreatDoorAxF
set_option linter.unusedSimpArgs false
set_option linter.unusedVariables false
namespace Go.MInst
open Go.Proofs Go.Ax Go.Pc
set_option maxRecDepth 100000
theorem c1s (ca cb:Rep) (a b:List W) (hab:a.length ≤ b.length) (hl:a.length < 1000000):sem L.env Mf 88 [sl ca (a.map W.enc),sl cb (b.map W.enc)] [] = some (u64 (b84 a b 0),[]):=by
 rw [← c9t a b 0 hab]
 (refine sv Tryz.f88 ?_;simp only [Tryz.f88,gS])
 (repeat first|simp only [ww]|(apply xa;simp +decide only [go_sem];rfl;kernel_rfl))
 refine a0s (σ:=Nat) kp88_0 (fun i=>[(0,sl ca (a.map W.enc)),(1,sl cb (b.map W.enc)),(4,u64 (b84 (a.take i) (b.take i) 0)),(9,.int .i64 a.length),(10,.int .i64 i)]) (fun _=>[]) (fun i=>a.length - i) (fun i=>i ≤ a.length) 0 ?_ (Nat.zero_le _) ?_
 ·have e:b84 (a.take 0) (b.take 0) 0 = BitVec.ofInt 64 0:=by rw [List.take_zero];rfl
  (simp +decide only [go_sem,a01,a00,e]<;>rfl)<;>rfl
 ·intro i hi
  by_cases hlt:i < a.length
  ·obtain ⟨x,hx⟩:∃ x,a[i]? = some x:=⟨_,List.getElem?_eq_getElem hlt⟩
   obtain ⟨y,hy⟩:∃ y,b[i]? = some y:=⟨_,List.getElem?_eq_getElem (by omega)⟩
   have c1:(i:Int) < a.length:=by omega
   have hib:i < b.length:=by omega
   have hw:=wI1 (n:=i) (by omega)
   have hs:=c9s hx hy
   (repeat first|simp only [ww]|(apply xa;simp +decide only [go_sem,c1,hlt,hx,hy,hib,hw];rfl;kernel_rfl))
   refine a1w (i + 1) ?_ (by omega) (by omega)
   rw [hs]
   (simp +decide only [go_sem,a01,a00,ctr]<;>rfl)
  ·obtain rfl:i = a.length:=by omega
   have c1:¬ (a.length:Int) < a.length:=by omega
   rw [List.take_length]
   (repeat first|simp only [ww]|(apply xa;simp +decide only [go_sem,c1];rfl;kernel_rfl))
   (apply fqb;simp +decide only [go_sem]<;>rfl)
theorem b7l {d:Bool} (H:a05) (ca cb:Rep) (a b:List W) (hab:a.length ≤ b.length) (hl:a.length < 1000000):a0c L.env d (sem L.env Mf) (.func (.func 88) [] []) [sl ca (a.map W.enc),sl cb (b.map W.enc)] H = some (u64 (b84 a b 0),H,[]):=
 a03 (by kernel_rfl) (by kernel_rfl) rfl (by simp only [List.nil_append,List.append_nil,a09,go_sem]) (c1s ca cb a b hab hl) rfl
theorem b5t {d:Bool} {H:a05} {b:Nat} (k:Nat) (hk:k < 16) (l:List W) (hl:l.length < 1000) {n:Int} (hn:n = k) {m:Nat} (hm:m = l.length) (hb:a02 H b = some (.row 2 (l.map W.enc))):a0c L.env d (sem L.env Mf) (.func (.func 126) [] []) [.int .u8 n,.slice b 0 m (some m)] H = some (.agg (a41 k l).enc,H,[b]):=by
 subst hn;subst hm
 exact a2d (fs:=[]) (cs:=[]) (ar:=[.int .u8 k,.slice b 0 l.length (some l.length)]) (by kernel_rfl) (by kernel_rfl) rfl hb (a0u (b3t l)) (FlatO.row (b3t l)) rfl (args':=[.int .u8 k,.slice 0 0 l.length (some l.length)]) (by simp only [List.nil_append,List.append_nil,List.map_cons,List.map_nil,a29];rfl) (d3w k hk l hl) rfl
theorem c5p (nodes:List Nd) (f:Flt) (hf:FltOk nodes f) (hm:f.model ≠ 0) (r:Rep) (good:List W) (hg:good.length = nodes.length):sem L.env Mf 129 [.agg f.enc,sl r (good.map W.enc)] [] = some (.agg (a16 a20 good f).enc,[]):=by
 have hn:=hf.node
 have ho:=hf.other
 obtain ⟨a,ha⟩:∃ a,good[f.node]? = some a:=⟨_,List.getElem?_eq_getElem (by omega)⟩
 obtain ⟨b,hb⟩:∃ b,good[f.other]? = some b:=⟨_,List.getElem?_eq_getElem (by omega)⟩
 have hnl:f.node < good.length:=by omega
 have hol:f.other < good.length:=by omega
 have hmm:f.model = 2 ∨ f.model = 3:=by rcases hf.model with e|e|e;exact absurd e hm;exact .inl e;exact .inr e
 rcases hmm with e|e
 ·have c1:¬ (((2:Nat):Int) = 3):=by decide
  by_cases hv:f.value = 0
  ·have hF:a16 a20 good f = a41 5 [a,b]:=by
    unfold a16;rw [if_neg hm,if_neg (by omega),if_pos hv];simp [List.getD,ha,hb];rfl
   rw [hF]
   have he:=fun X Y=>b5t (d:=true) (H:=[X,Y,some (.row 2 ([a,b].map W.enc))]) (b:=2) 5 (by omega) [a,b] (by simp) (n:=5) rfl (m:=2) rfl rfl
   generalize a41 5 [a,b] = v at he
   simp only [List.map_cons,List.map_nil,W.enc] at he
   simp only [Flt.enc,e,hv]
   (refine sv Tryz.f129 ?_;simp only [Tryz.f129,gS])
   (repeat first|simp only [ww]|(apply xa;simp +decide only [go_sem,ha,hb,hnl,hol,he];rfl;kernel_rfl))
   (apply fqb;simp +decide only [go_sem]<;>rfl)
  ·have cv:¬ (f.value:Int) = 0:=by omega
   have hF:a16 a20 good f = a41 7 [a,b]:=by
    unfold a16;rw [if_neg hm,if_neg (by omega),if_neg hv];simp [List.getD,ha,hb];rfl
   rw [hF]
   have he:=fun X Y=>b5t (d:=true) (H:=[X,Y,some (.row 2 ([a,b].map W.enc))]) (b:=2) 7 (by omega) [a,b] (by simp) (n:=7) rfl (m:=2) rfl rfl
   generalize a41 7 [a,b] = v at he
   simp only [List.map_cons,List.map_nil,W.enc] at he
   simp only [Flt.enc,e]
   (refine sv Tryz.f129 ?_;simp only [Tryz.f129,gS])
   (repeat first|simp only [ww]|(apply xa;simp +decide only [go_sem,ha,hb,hnl,hol,he,cv];rfl;kernel_rfl))
   (apply fqb;simp +decide only [go_sem]<;>rfl)
 ·have hF:a16 a20 good f = b:=by
   unfold a16;rw [if_neg hm,if_pos e];simp [List.getD,hb]
  rw [hF]
  simp only [Flt.enc,e]
  (refine sv Tryz.f129 ?_;simp only [Tryz.f129,gS])
  (repeat first|simp only [ww]|(apply xa;simp +decide only [go_sem,hb,hol];rfl;kernel_rfl))
  (apply fqb;simp +decide only [go_sem]<;>rfl)
theorem b9y {d:Bool} (H:a05) (nodes:List Nd) (f:Flt) (hf:FltOk nodes f) (hm:f.model ≠ 0) (r:Rep) (good:List W) (hg:good.length = nodes.length):a0c L.env d (sem L.env Mf) (.func (.func 129) [] []) [.agg f.enc,sl r (good.map W.enc)] H = some (.agg (a16 a20 good f).enc,H,[]):=
 a03 (by kernel_rfl) (by kernel_rfl) rfl (by simp only [List.nil_append,List.append_nil,a09,a0y,Flt.enc,go_sem]) (c5p nodes f hf hm r good hg) rfl
/- one fault in all lanes -/
def d6l (f:Flt) (w:W):AV:=.func (.func 131) [] [.iptr f.enc,.iptr w.enc]
def e23 (f:Flt) (w:W):AV:=.func (.func 130) [] [.iptr f.enc,.iptr w.enc]
theorem d6k (f:Flt) (hp:f.pin < 0) (hmm:f.model = 0 ∨ f.model = 2 ∨ f.model = 3) (v w:W) (n:Nat):sem L.env Mf 131 [.int .i64 n,.agg w.enc,.iptr f.enc,.iptr v.enc] [] = some (.agg ((hkF f v).net n w).enc,[]):=by
 have hH:(hkF f v).net n w = if n = f.node ∨ (f.model = 2 ∧ n = f.other) then v else w:=by
  unfold hkF Flt.hitsNet
  simp only [decide_eq_true hp,Bool.true_and,Bool.or_eq_true,Bool.and_eq_true,decide_eq_true_eq]
 rw [hH]
 simp only [Flt.enc]
 by_cases h1:n = f.node
 ·have c1:decide ((n:Int) = f.node) = true:=decide_eq_true (by omega)
  rw [if_pos (.inl h1)]
  (refine sv Tryz.f131 ?_;simp only [Tryz.f131,gS])
  (repeat first|simp only [ww]|(apply xa;simp +decide only [go_sem,c1];rfl;kernel_rfl))
  (apply fqb;simp +decide only [go_sem]<;>rfl)
 have c1:¬ (n:Int) = f.node:=by omega
 by_cases h2:f.model = 2
 ·have c2:decide ((f.model:Int) = 2) = true:=decide_eq_true (by omega)
  by_cases h3:n = f.other
  ·have c3:decide ((n:Int) = f.other) = true:=decide_eq_true (by omega)
   rw [if_pos (.inr ⟨h2,h3⟩)]
   (refine sv Tryz.f131 ?_;simp only [Tryz.f131,gS])
   (repeat first|simp only [ww]|(apply xa;simp +decide only [go_sem,c1,c2,c3];rfl;kernel_rfl))
   (apply fqb;simp +decide only [go_sem]<;>rfl)
  ·have c3:¬ (n:Int) = f.other:=by omega
   rw [if_neg (by rintro (h|⟨_,h⟩);exact h1 h;exact h3 h)]
   (refine sv Tryz.f131 ?_;simp only [Tryz.f131,gS])
   (repeat first|simp only [ww]|(apply xa;simp +decide only [go_sem,c1,c2,c3];rfl;kernel_rfl))
   (apply fqb;simp +decide only [go_sem]<;>rfl)
 ·have c2:¬ (f.model:Int) = 2:=by omega
  rw [if_neg (by rintro (h|⟨h,_⟩);exact h1 h;exact h2 h)]
  (refine sv Tryz.f131 ?_;simp only [Tryz.f131,gS])
  (repeat first|simp only [ww]|(apply xa;simp +decide only [go_sem,c1,c2];rfl;kernel_rfl))
  (apply fqb;simp +decide only [go_sem]<;>rfl)
theorem d6i (f:Flt) (hp:0 ≤ f.pin) (v w:W) (n p:Nat):sem L.env Mf 130 [.int .i64 n,.int .i64 p,.agg w.enc,.iptr f.enc,.iptr v.enc] [] = some (.agg ((hkF f v).pin n p w).enc,[]):=by
 have hH:(hkF f v).pin n p w = if n = f.node ∧ (p:Int) = f.pin then v else w:=by
  unfold hkF Flt.hitsPin
  simp only [decide_eq_true hp,Bool.true_and,Bool.and_eq_true,decide_eq_true_eq]
 rw [hH]
 simp only [Flt.enc]
 by_cases h1:n = f.node
 ·have c1:decide ((n:Int) = f.node) = true:=decide_eq_true (by omega)
  by_cases h2:(p:Int) = f.pin
  ·have c2:decide ((p:Int) = f.pin) = true:=decide_eq_true h2
   rw [if_pos ⟨h1,h2⟩]
   (refine sv Tryz.f130 ?_;simp only [Tryz.f130,gS])
   (repeat first|simp only [ww]|(apply xa;simp +decide only [go_sem,c1,c2];rfl;kernel_rfl))
   (apply fqb;simp +decide only [go_sem]<;>rfl)
  ·rw [if_neg (fun h=>h2 h.2)]
   (refine sv Tryz.f130 ?_;simp only [Tryz.f130,gS])
   (repeat first|simp only [ww]|(apply xa;simp +decide only [go_sem,c1,h2];rfl;kernel_rfl))
   (apply fqb;simp +decide only [go_sem]<;>rfl)
 ·have c1:¬ (n:Int) = f.node:=by omega
  rw [if_neg (fun h=>h1 h.1)]
  (refine sv Tryz.f130 ?_;simp only [Tryz.f130,gS])
  (repeat first|simp only [ww]|(apply xa;simp +decide only [go_sem,c1];rfl;kernel_rfl))
  (apply fqb;simp +decide only [go_sem]<;>rfl)
theorem c4z {f:Flt} (hp:0 ≤ f.pin) (v:W):(hkF f v).net = (hk0:Hk W).net:=by
 funext n w;unfold hkF Flt.hitsNet hk0;simp [show ¬ f.pin < 0 by omega]
theorem c4y {f:Flt} (hp:f.pin < 0) (v:W):(hkF f v).pin = (hk0:Hk W).pin:=by
 funext n p w;unfold hkF Flt.hitsPin hk0;simp [show ¬ 0 ≤ f.pin by omega]
def d6m (f:Flt) (w:W):AV:=if f.pin < 0 then d6l f w else net0V
def d6j (f:Flt) (w:W):AV:=if f.pin < 0 then pin0V else e23 f w
theorem e25 (N:Nat) (f:Flt) (hmm:f.model = 0 ∨ f.model = 2 ∨ f.model = 3) (w:W):NetF N (d6m f w) (hkF f w).net:=by
 unfold d6m
 by_cases h:f.pin < 0
 ·rw [if_pos h]
  exact ⟨rfl,fun d H n x _=>a03 (by kernel_rfl) (by kernel_rfl) rfl rfl (d6k f h hmm w x n) rfl⟩
 ·rw [if_neg h,c4z (by omega)];exact e34 N
theorem e24 (N:Nat) (f:Flt) (w:W):PinF N (d6j f w) (hkF f w).pin:=by
 unfold d6j
 by_cases h:f.pin < 0
 ·rw [if_pos h,c4y h];exact e2t N
 ·rw [if_neg h]
  exact ⟨rfl,fun d H n p x _=>a03 (by kernel_rfl) (by kernel_rfl) rfl rfl (d6i f (by omega) w x n p) rfl⟩
theorem d18 (c:Cir) (ord:List Nat) (f:Flt) (hf:FltOk c.nodes f) (r:Rep) (good:List W) (hg:good.length = c.nodes.length):sem L.env Mf 87 [.agg (a58 c ord net0V pin0V),.agg f.enc,sl r (good.map W.enc)] [] = some (.agg (a58 c ord (d6m f (a16 a20 good f)) (d6j f (a16 a20 good f))),[]):=by
 have hfl:=fun H=>b3v (d:=false) H f.value (by have:=hf.value;omega)
 obtain ⟨r0,e3⟩:=a2g (kinds c.nodes 0)
 obtain ⟨r1,e4⟩:=a2g (kinds c.nodes 14)
 simp only [W.enc] at hfl
 by_cases hm:f.model = 0
 ·have hF:a16 a20 good f = a2r f.value:=by unfold a16;rw [if_pos hm];rfl
  rw [hF]
  generalize a2r f.value = v at hfl
  by_cases hp:f.pin < 0
  ·have cp:¬ 0 ≤ f.pin:=by omega
   unfold d6m d6j
   rw [if_pos hp,if_pos hp]
   unfold a58 net0V pin0V d6l
   rw [e3,e4]
   simp only [Flt.enc,hm]
   (refine sv Tryz.f87 ?_;simp only [Tryz.f87,gS])
   (repeat first|simp only [ww]|(apply xa;simp +decide only [go_sem,hfl,cp];rfl;kernel_rfl))
   (apply fqb;simp +decide only [go_sem]<;>rfl)
  ·have cp:0 ≤ f.pin:=by omega
   unfold d6m d6j
   rw [if_neg hp,if_neg hp]
   unfold a58 net0V pin0V e23
   rw [e3,e4]
   simp only [Flt.enc,hm]
   (refine sv Tryz.f87 ?_;simp only [Tryz.f87,gS])
   (repeat first|simp only [ww]|(apply xa;simp +decide only [go_sem,hfl,cp];rfl;kernel_rfl))
   (apply fqb;simp +decide only [go_sem]<;>rfl)
 ·have hb:=fun H=>b9y (d:=false) H c.nodes f hf hm r good hg
  have hp:f.pin < 0:=by have:=(hf.bridge hm).1;omega
  have cp:¬ 0 ≤ f.pin:=by omega
  have cm:¬ (f.model:Int) = 0:=by omega
  generalize a16 a20 good f = v at hb
  unfold d6m d6j
  rw [if_pos hp,if_pos hp]
  unfold a58 net0V pin0V d6l
  rw [e3,e4]
  simp only [Flt.enc,W.enc] at hb
  simp only [Flt.enc]
  (refine sv Tryz.f87 ?_;simp only [Tryz.f87,gS])
  (repeat first|simp only [ww]|(apply xa;simp +decide only [go_sem,hfl,cp,cm,hb];rfl;kernel_rfl))
  (apply fqb;simp +decide only [go_sem]<;>rfl)
theorem c42 {d:Bool} (H:a05) (c:Cir) (ord:List Nat) (f:Flt) (hf:FltOk c.nodes f) (r:Rep) (good:List W) (hg:good.length = c.nodes.length):a0c L.env d (sem L.env Mf) (.func (.func 87) [] []) [.agg (a58 c ord net0V pin0V),.agg f.enc,sl r (good.map W.enc)] H = some (.agg (a58 c ord (d6m f (a16 a20 good f)) (d6j f (a16 a20 good f))),H,[]):=
 a03 (by kernel_rfl) (by kernel_rfl) rfl (by simp only [List.nil_append,List.append_nil,a09,a0y,a7h c ord net0V pin0V rfl rfl,Flt.enc,go_sem]) (d18 c ord f hf r good hg) (by rw [a0y];exact a7h _ _ _ _ (e25 0 f hf.model _).flat (e24 0 f _).flat)
theorem c2a {d:Bool} (H:a05) (c:Cir) (hc:c.wf) (ord:List Nat) (ho:∀ n ∈ ord,n < c.nodes.length) (hol:ord.length ≤ 1000) (net pin:AV) (g:Hk W) (h0:NetF c.nodes.length net g.net) (h2:PinF c.nodes.length pin g.pin) (ri rs:Rep) (vi vs:List W) (hvi:vi.length = (kinds c.nodes 0).length) (hvs:vs.length = (kinds c.nodes 14).length) :
 a0c L.env d (sem L.env Mf) (.func (.func 86) [] []) [.agg (a58 c ord net pin),sl ri (vi.map W.enc),sl rs (vs.map W.enc)] H = some (.tuple [.islice (((a2b c ord).nets a20 g vi vs).map W.enc) (some c.nodes.length),sl none (((a2b c ord).seen a20 g ((a2b c ord).nets a20 g vi vs)).map W.enc)],H,[]):=
 a03 (by kernel_rfl) (by kernel_rfl) rfl (by simp only [List.nil_append,List.append_nil,a09,a0y,a7h c ord net pin h0.flat h2.flat,go_sem]) (e2j c hc ord ho hol net pin g h0 h2 ri rs vi vs hvi hvs) (by simp only [a6y,a09,a9a,a2f,a1u,List.append_nil])
set_option maxHeartbeats 200000000
open Go.Proofs Go.Ax Go.Pc
set_option maxRecDepth 100000
theorem d7a (p:Pat):sem L.env Mf 84 [.agg p.enc] [] = some (sl p.ic (p.ins.map u8R),[]):=by
 simp only [Pat.enc]
 (refine sv Tryz.f84 ?_;simp only [Tryz.f84,gS])
 (repeat first|simp only [ww]|(apply xa;simp +decide only [go_sem];rfl;kernel_rfl))
 (apply fqb;simp +decide only [go_sem]<;>rfl)
theorem d78 (p:Pat):sem L.env Mf 85 [.agg p.enc] [] = some (sl p.sc (p.sts.map u8R),[]):=by
 simp only [Pat.enc]
 (refine sv Tryz.f85 ?_;simp only [Tryz.f85,gS])
 (repeat first|simp only [ww]|(apply xa;simp +decide only [go_sem];rfl;kernel_rfl))
 (apply fqb;simp +decide only [go_sem]<;>rfl)
def c4g (vs:List (List Nat)) (i:Nat):W:=a36 (vs.map fun l=>l.getD i 0) 0 zW
def a6e (vs:List (List Nat)) (many i:Nat):List W:=(List.range many).map fun j=>if j < i then c4g vs j else zW
def a5a (vs:List (List Nat)) (many:Nat):List W:=(List.range many).map (c4g vs)
theorem b11 (vs:List (List Nat)) (many i:Nat):(a6e vs many i).length = many:=by simp [a6e]
theorem c4h (vs:List (List Nat)) (many:Nat):a6e vs many many = a5a vs many:=by
 unfold a6e a5a
 refine List.map_congr_left fun j hj=>?_
 rw [if_pos (by simpa using hj)]
theorem c14 (vs:List (List Nat)) (many:Nat):a6e vs many 0 = List.replicate many zW:=by
 unfold a6e
 apply List.ext_getElem?
 intro j
 simp only [List.getElem?_map,List.getElem?_replicate,Nat.not_lt_zero,if_false]
 by_cases h:j < many
 ·rw [List.getElem?_range h];simp [h]
 ·rw [List.getElem?_eq_none (by simpa using h)];simp [h]
theorem b12 {vs:List (List Nat)} {many i j:Nat} (h:j < many):(a6e vs many i)[j]? = some (if j < i then c4g vs j else zW):=by
 simp [a6e,List.getElem?_range h]
theorem c15 {vs:List (List Nat)} {many i:Nat} (h:i < many):(a6e vs many i).set i (c4g vs i) = a6e vs many (i + 1):=by
 apply List.ext_getElem?
 intro j
 rw [List.getElem?_set,b11]
 by_cases hj:j < many
 ·rw [b12 hj,b12 hj]
  by_cases hij:i = j
  ·subst hij;simp [h]
  ·by_cases h2:j < i
   ·simp [hij,h2,show j < i + 1 by omega]
   ·simp [hij,h2,show ¬ j < i + 1 by omega]
 ·have e:∀ i,(a6e vs many i)[j]? = none:=fun i=>List.getElem?_eq_none (by rw [b11];omega)
  rw [e,e]
  simp [show i ≠ j by omega]
structure SelF (f:AV) (rep:Pat → Rep) (sel:Pat → List Nat):Prop where
 flat:refs f = []
 call:∀ (d:Bool) (H:a05) (p:Pat),a0c L.env d (sem L.env Mf) f [.agg p.enc] H = some (sl (rep p) ((sel p).map u8R),H,[])
def d7b:AV:=.func (.func 84) [] []
def d79:AV:=.func (.func 85) [] []
theorem e6s:SelF d7b Pat.ic Pat.ins:=⟨rfl,fun d H p=>a03 (by kernel_rfl) (by kernel_rfl) rfl (by simp only [List.nil_append,List.append_nil,a09,a0y,Pat.enc,go_sem]) (d7a p) (a2f _ _)⟩
theorem e6r:SelF d79 Pat.sc Pat.sts:=⟨rfl,fun d H p=>a03 (by kernel_rfl) (by kernel_rfl) rfl (by simp only [List.nil_append,List.append_nil,a09,a0y,Pat.enc,go_sem]) (d78 p) (a2f _ _)⟩
theorem c7m (rp:Rep) (ps:List Pat) (f:AV) (rep:Pat → Rep) (sel:Pat → List Nat) (hf:SelF f rep sel) (many:Nat) (hm:many ≤ 1000) (hp:ps.length ≤ 64) (hv:∀ p ∈ ps,(sel p).length = many ∧ ∀ v ∈ sel p,v ≤ 3) :
 sem L.env Mf 83 [sl rp (ps.map Pat.enc),.int .i64 many,f] [] = some (.islice ((a5a (ps.map sel) many).map W.enc) (some many),[]):=by
 have h1:=hf.flat
 have e1:∀ π,ren π f = f:=fun π=>a1a π _ h1
 have hrm:many ≤ 1000000000:=by omega
 rw [← c4h]
 (refine sv Tryz.f83 ?_;simp only [Tryz.f83,gS])
 (repeat first|simp only [ww]|(apply xa;simp +decide only [go_sem,hrm];rfl;kernel_rfl))
 refine a0s (σ:=Nat) kp83_0 (fun i=>[(0,sl rp (ps.map Pat.enc)),(2,f),(7,.slice 0 0 many (some many)),(14,.int .i64 many),(15,.int .i64 i)])
  (fun i=>[some (.row 2 ((a6e (ps.map sel) many i).map W.enc))]) (fun i=>many - i) (fun i=>i ≤ many) 0 ?_ (Nat.zero_le _) ?_
 ·rw [c14]
  (simp +decide only [go_sem,a01,a00,h1,e1,a3k,a5i,zW]<;>rfl)<;>rfl
 ·intro i hi
  have hpl:=b11 (ps.map sel) many i
  by_cases hlt:i < many
  ·have c1:(i:Int) < many:=by omega
   have hwi:=wI1 (n:=i) (by omega)
   have hsucc:=c15 (vs:=ps.map sel) hlt
   have hgi:=b12 (vs:=ps.map sel) (i:=i) hlt
   rw [if_neg (Nat.lt_irrefl i)] at hgi
   have hPW:c4g (ps.map sel) i = a36 ((ps.map sel).map fun l=>l.getD i 0) 0 zW:=rfl
   rw [hPW] at hsucc
   have hVl:((ps.map sel).map fun l=>l.getD i 0).length = ps.length:=by simp
   have hVg:∀ (k:Nat) p,ps[k]? = some p → ((ps.map sel).map fun l=>l.getD i 0)[k]? = some ((sel p).getD i 0):=by intro k p hk;simp [hk]
   generalize ((ps.map sel).map fun l=>l.getD i 0) = V at hsucc hVl hVg
   generalize a6e (ps.map sel) many i = N at hpl hsucc hgi
   (repeat first|simp only [ww]|(apply xa;simp +decide only [go_sem,c1];rfl;kernel_rfl))
   refine a0s (σ:=Nat) kp83_2 (fun k=>[(0,sl rp (ps.map Pat.enc)),(2,f),(7,.slice 0 0 many (some many)),(8,.int .i64 i),(14,.int .i64 many),(15,.int .i64 i),(18,sl rp (ps.map Pat.enc)),(19,.int .i64 ps.length),(20,.int .i64 k)])
    (fun k=>[some (.row 2 ((N.set i (a36 (V.take k) 0 zW)).map W.enc))]) (fun k=>ps.length - k) (fun k=>k ≤ ps.length) 0 ?_ (Nat.zero_le _) ?_
   ·have e:N.set i (a36 (V.take 0) 0 zW) = N:=by
     apply List.ext_getElem?
     intro j
     rw [List.getElem?_set]
     by_cases hij:i = j
     ·subst hij;rw [if_pos rfl,if_pos (by omega),hgi];rfl
     ·simp [hij]
    rw [e]
    (simp +decide only [go_sem,a01,a00,h1,e1,a3k,a5i]<;>rfl)<;>rfl
   ·intro k hk
    by_cases hkl:k < ps.length
    ·obtain ⟨p,hpk⟩:∃ p,ps[k]? = some p:=⟨_,List.getElem?_eq_getElem hkl⟩
     obtain ⟨hsl,hsv⟩:=hv p (List.mem_of_getElem? hpk)
     obtain ⟨v,hv2⟩:∃ v,(sel p)[i]? = some v:=⟨_,List.getElem?_eq_getElem (by omega)⟩
     have hv3:=hsv v (List.mem_of_getElem? hv2)
     have c2:(k:Int) < ps.length:=by omega
     have hwk:=wI1 (n:=k) (by omega)
     have hcf:=fun H=>hf.call true H p
     simp only [Pat.enc] at hcf
     have hVk:=hVg k p hpk
     rw [List.getD,hv2,Option.getD_some] at hVk
     have hps:=b6r (w:=zW) hVk
     generalize a36 (V.take k) 0 zW = w at hps
     have hpc:=fun H=>c4f (d:=true) H w k v (by omega) (by omega)
     rw [← hps] at hpc
     clear hps
     generalize hw2:a36 (V.take (k + 1)) 0 zW = w2 at hpc
     simp only [W.enc] at hpc
     have hgw:(N.set i w)[i]? = some w:=by rw [List.getElem?_set];simp;omega
     have hlw:(N.set i w).length = many:=by rw [List.length_set];exact hpl
     have hst:((N.set i w).map W.enc).set i [u64 w2.one,u64 w2.zero] = (N.set i w2).map W.enc:=by
      rw [show [u64 w2.one,u64 w2.zero] = W.enc w2 from rfl,← List.map_set,List.set_set]
     have hil:i < (sel p).length:=by omega
     (repeat first|simp only [ww]|(apply xa;simp +decide only [go_sem,c2,hkl,hpk,hwk,hcf,hpc,hgw,hlw,hst,hlt,hv2,hil];rfl;kernel_rfl))
     refine a1w (k + 1) ?_ (by omega) (by omega)
     (simp +decide only [go_sem,a01,a00,h1,e1,a3k,a5i,hw2]<;>rfl)<;>rfl
    ·obtain rfl:k = ps.length:=by omega
     have c2:¬ (ps.length:Int) < ps.length:=by omega
     rw [List.take_of_length_le (by omega),hsucc]
     (repeat first|simp only [ww]|(apply xa;simp +decide only [go_sem,c2,hwi];rfl;kernel_rfl))
     refine a1w (i + 1) ?_ (by omega) (by omega)
     (simp +decide only [go_sem,a01,a00,h1,e1,a3k,a5i]<;>rfl)<;>rfl
  ·obtain rfl:i = many:=by omega
   have c1:¬ (i:Int) < i:=by omega
   generalize a6e (ps.map sel) i i = N at hpl
   subst hpl
   (repeat first|simp only [ww]|(apply xa;simp +decide only [go_sem,c1];rfl;kernel_rfl))
   (apply fqb;simp +decide only [go_sem,d3n]<;>rfl)
theorem b2x {d:Bool} (H:a05) (rp:Rep) (ps:List Pat) (f:AV) (rep:Pat → Rep) (sel:Pat → List Nat) (hf:SelF f rep sel) (many:Nat) (hm:many ≤ 1000) (hp:ps.length ≤ 64) (hv:∀ p ∈ ps,(sel p).length = many ∧ ∀ v ∈ sel p,v ≤ 3) :
 a0c L.env d (sem L.env Mf) (.func (.func 83) [] []) [sl rp (ps.map Pat.enc),.int .i64 many,f] H = some (.islice ((a5a (ps.map sel) many).map W.enc) (some many),H,[]):=
 a03 (by kernel_rfl) (by kernel_rfl) rfl (by simp only [List.nil_append,List.append_nil,a09,hf.flat,go_sem]) (c7m rp ps f rep sel hf many hm hp hv) rfl
open Go.Proofs Go.Ax Go.Pc
set_option maxRecDepth 100000
theorem d6u (H:a05) (a b q:Nat) (ids:Nat → Nat) (w:Nat) (fo:List (List (BitVec 64))) (fr:Nat) (ht:Tbl H a b q ids w fo fr) (hall:∀ c,c < H.length → c ∈ Tbl.blocks a b q ids fo.length) (i:Nat) (f:List (BitVec 64)) (hf:fo[i]? = some f) (hk:fr / 64 < w) (hfr:fr < 1000000) (x:BitVec 64) :
 ∃ H1,sem L.env Mf 53 [.int .i64 i,u64 x,.ptr a 0 0,.ptr q 0 0] H = some (.tuple [],H1) ∧ H1.length = H.length ∧ Tbl H1 a b q ids w (fo.set i (f.set (fr / 64) x)) fr:=by
 have hi:i < fo.length:=(List.getElem?_eq_some_iff.1 hf).1
 obtain ⟨g1,g2,g3,g4,g5⟩:=ht.sub i f hf
 have hout:=ht.out
 have htop:=ht.top
 have hfrm:=ht.frm
 have hw:=wI (n:=fr / 64) (by omega)
 have hget:((List.range fo.length).map fun j=>[AV.slice (ids j) 0 w (some w)])[i]? = some [.slice (ids i) 0 w (some w)]:=by rw [List.getElem?_map,List.getElem?_range hi];rfl
 have hkf:fr / 64 < f.length:=by omega
 obtain ⟨y,hy⟩:∃ y,f[fr / 64]? = some y:=⟨_,List.getElem?_eq_getElem hkf⟩
 have hgy:(f.map b4i)[fr / 64]? = some [u64 y]:=by rw [List.getElem?_map,hy];rfl
 have hst:(f.map b4i).set (fr / 64) [u64 x] = (f.set (fr / 64) x).map b4i:=by rw [List.map_set];rfl
 have hlt:=a0m g1
 have hput:=ht.put (k:=fr / 64) (x:=x) hf
 have hal:=a0m hout
 suffices hs:∃ r:AV × a05,(∃ H1,r = (.tuple [],H1) ∧ H1.length = H.length ∧ Tbl H1 a b q ids w (fo.set i (f.set (fr / 64) x)) fr) ∧ sem L.env Mf 53 [.int .i64 i,u64 x,.ptr a 0 0,.ptr q 0 0] H = some r by
  obtain ⟨r,⟨H1,rfl,h1,h2⟩,h3⟩:=hs
  exact ⟨H1,h3,h1,h2⟩
 (refine svE Tryz.f53 ?_;simp only [Tryz.f53,gS])
 (repeat first|simp only [ww]|((with_reducible first|apply xs2|apply xI);(·simp +decide only [go_sem,hout,htop,hfrm,hw,hget,hi,hk,g1,hgy,hst,hlt,List.length_range];rfl);with_reducible first|apply xT|apply xF|(·kernel_rfl)))
 refine a5b (vs:=[]) (r:=(.tuple [],((H.set (ids i) (some (.row 1 ((f.set (fr / 64) x).map b4i)))).take H.length).map (Option.map (a0v (a1k H.length))))) (by simp +decide only [go_sem]) (by rw [show L.env.thaw 53 = false from rfl,a8i];rfl) ⟨_,rfl,by simp,?_⟩
 have hl2:(H.set (ids i) (some (.row 1 ((f.set (fr / 64) x).map b4i)))).length = H.length:=List.length_set
 have htk:(H.set (ids i) (some (.row 1 ((f.set (fr / 64) x).map b4i)))).take H.length = H.set (ids i) (some (.row 1 ((f.set (fr / 64) x).map b4i))):=List.take_of_length_le (by omega)
 rw [htk]
 generalize H.set (ids i) (some (.row 1 ((f.set (fr / 64) x).map b4i))) = Hs at hput hl2
 have hpb:∀ c,c < H.length → a1k H.length c = some c:=fun c hc=>by rw [a72];simp [hc]
 have hbl:∀ c ∈ Tbl.blocks a b q ids (fo.set i (f.set (fr / 64) x)).length,c < H.length:=by
  intro c hc
  rw [← hl2]
  rw [Tbl.mem_blocks] at hc
  rcases hc with rfl|rfl|rfl|⟨j,hj,rfl⟩
  ·exact a0m hput.out
  ·exact a0m hput.top
  ·exact a0m hput.frm
  ·obtain ⟨f',hf'⟩:∃ f',(fo.set i (f.set (fr / 64) x))[j]? = some f':=⟨_,List.getElem?_eq_getElem hj⟩
   exact a0m (hput.sub j f' hf').1
 refine hput.stay (R:=(·∈ Tbl.blocks a b q ids (fo.set i (f.set (fr / 64) x)).length)) (π:=a1k H.length) ⟨?_,hput.closed,fun c hc=>⟨c,hpb c (hbl c hc)⟩,?_⟩ (Tbl.mem_blocks.2 (.inl rfl)) (Tbl.mem_blocks.2 (.inr (.inr (.inl rfl)))) (fun c hc=>hpb c (hbl c hc))
 ·intro x y z hx hy
  rw [a72] at hx hy
  cases h1:decide (x < H.length)<;>cases h2:decide (y < H.length)<;>simp [h1,h2] at hx hy
  omega
 ·intro c d hc hd
  rw [hpb c (hbl c hc)] at hd
  cases hd
  unfold a02
  rw [List.getElem?_map]
  cases Hs[c]? with
  | none=>rfl
  | some o=>rfl
theorem c6b {d:Bool} {H:a05} {m a b q:Nat} {ids:Nat → Nat} {w:Nat} {fo:List (List (BitVec 64))} {fr:Nat} (h:TSt H m a b q ids w fo fr) (hm:m ≤ H.length) (hn:fo.length ≤ 1000) (i:Nat) (f:List (BitVec 64)) (hf:fo[i]? = some f) (hk:fr / 64 < w) (hfr:fr < 1000000) (x:BitVec 64) :
 ∃ H' σ,a0c L.env d (sem L.env Mf) (.func (.func 53) [] [.ptr a 0 0,.ptr q 0 0]) [.int .i64 i,u64 x] H = some (.tuple [],H',σ) ∧ TSt H' m a b q ids w (fo.set i (f.set (fr / 64) x)) fr ∧ H'.length = H.length ∧ ∀ c,c ∉ Tbl.blocks a b q ids fo.length → a02 H' c = a02 H c:=by
 refine d02 (by kernel_rfl) (by kernel_rfl) h hm hn rfl List.length_set ?_
 intro H0 a' b' q' ids' ht hall
 exact d6u H0 a' b' q' ids' w fo fr ht hall i f hf hk hfr x
set_option maxHeartbeats 200000000
open Go.Proofs Go.Ax Go.Pc
set_option maxRecDepth 100000
def b5o (c:Cir) (ord:List Nat) (f:Flt) (vi vs:List W):BitVec 64:=
 b84 ((a2b c ord).seen a20 hk0 ((a2b c ord).nets a20 hk0 vi vs)) ((a2b c ord).seen a20 (hkF f (a16 a20 ((a2b c ord).nets a20 hk0 vi vs) f)) ((a2b c ord).nets a20 (hkF f (a16 a20 ((a2b c ord).nets a20 hk0 vi vs) f)) vi vs)) 0
def d1a (c:Cir) (ps:List Pat):List W:=a5a (ps.map Pat.ins) (kinds c.nodes 0).length
def d19 (c:Cir) (ps:List Pat):List W:=a5a (ps.map Pat.sts) (kinds c.nodes 14).length
def b4p (c:Cir) (ord:List Nat) (f:Flt) (ps:List Pat):BitVec 64:=
 if ps.length < 64 then b5o c ord f (d1a c ps) (d19 c ps) &&& (BitVec.ofInt 64 1 <<< ps.length - BitVec.ofInt 64 1) else b5o c ord f (d1a c ps) (d19 c ps)
def b83 (l:List Flt) (hit:Flt → BitVec 64) (k:Nat) (fo:List (List (BitVec 64))) (i:Nat):List (List (BitVec 64)):=fo.mapIdx fun j f=>if j < i then f.set k (hit (l.getD j ⟨0,0,0,0,0⟩)) else f
theorem b2e (l:List Flt) (hit:Flt → BitVec 64) (k:Nat) (fo:List (List (BitVec 64))) (i:Nat):(b83 l hit k fo i).length = fo.length:=by simp [b83]
theorem c9c (l:List Flt) (hit:Flt → BitVec 64) (k:Nat) (fo:List (List (BitVec 64))):b83 l hit k fo 0 = fo:=by
 unfold b83
 apply List.ext_getElem?
 intro j
 rw [List.getElem?_mapIdx]
 cases fo[j]?<;>simp
theorem d3p {l:List Flt} {hit:Flt → BitVec 64} {k:Nat} {fo:List (List (BitVec 64))} {i:Nat} {r:List (BitVec 64)} (h:fo[i]? = some r):(b83 l hit k fo i)[i]? = some r:=by
 unfold b83;rw [List.getElem?_mapIdx,h];simp
theorem c9d {l:List Flt} {hit:Flt → BitVec 64} {k:Nat} {fo:List (List (BitVec 64))} {i:Nat} {f:Flt} {r:List (BitVec 64)} (hf:l[i]? = some f) (h:fo[i]? = some r):(b83 l hit k fo i).set i (r.set k (hit f)) = b83 l hit k fo (i + 1):=by
 apply List.ext_getElem?
 intro j
 rw [List.getElem?_set,b2e]
 unfold b83
 rw [List.getElem?_mapIdx,List.getElem?_mapIdx]
 have hi:=(List.getElem?_eq_some_iff.1 h).1
 by_cases hij:i = j
 ·subst hij
  have hr:fo[i] = r:=(List.getElem?_eq_some_iff.1 h).2
  simp [hi,h,List.getD,hf,hr]
 ·by_cases h2:j < i
  ·simp [hij,h2,show j < i + 1 by omega]
  ·simp [hij,h2,show ¬ j < i + 1 by omega]
theorem TSt.grow {H:a05} {a b q:Nat} {ids:Nat → Nat} {w:Nat} {fo:List (List (BitVec 64))} {fr:Int} {L:a05} (h:TSt H H.length a b q ids w fo fr):TSt (H ++ L) H.length a b q ids w fo fr:=
 ⟨h.tbl.more,fun c hc=>by rw [a5j (eq_true hc)];exact h.lowf c hc,h.bnd⟩
theorem b2y (vs:List (List Nat)) (n:Nat):(a5a vs n).length = n:=by simp [a5a]
def c0k (a q:Nat):AV:=.func (.func 53) [] [.ptr a 0 0,.ptr q 0 0]
theorem exi {A P Q:Frm → a05 → Prop} (h:∃ F1 H1,A F1 H1 ∧ P F1 H1) (hq:∀ F1 H1,P F1 H1 → Q F1 H1):∃ F1 H1,A F1 H1 ∧ Q F1 H1:=by
 obtain ⟨F1,H1,h1,h2⟩:=h;exact ⟨F1,H1,h1,hq _ _ h2⟩
theorem c9g (l:List Flt):FlatR (l.map Flt.enc):=FlatR.map fun _=>rfl
theorem b6f (c:Cir) (ord:List Nat) (h:Hk W) (nets:List W):((a2b c ord).seen a20 h nets).length = c.outs.length + (kinds c.nodes 14).length:=by
 show (b2m a20 c.nodes h c.outs (kinds c.nodes 14) nets).length = _
 unfold b2m;simp
theorem e6v (c:Cir) (hc:c.wf) (ord:List Nat) (ho:∀ n ∈ ord,n < c.nodes.length) (hol:ord.length ≤ 1000) (rl:Rep) (rp:Rep) (l:List Flt) (ps:List Pat) (hf:∀ f ∈ l,FltOk c.nodes f) (hp:∀ p ∈ ps,PatOk c.nodes p) (hpl:ps.length ≤ 64)
 (H:a05) (a b q:Nat) (ids:Nat → Nat) (w:Nat) (fo:List (List (BitVec 64))) (fr:Nat) (ht:TSt H H.length a b q ids w fo fr) (hfo:fo.length = l.length) (hll:l.length ≤ 1000) (hk:fr / 64 < w) (hfr:fr < 1000000) :
 ∃ H1,sem L.env Mf 52 [.agg (a58 c ord net0V pin0V),sl rl (l.map Flt.enc),sl rp (ps.map Pat.enc),c0k a q] H = some (.tuple [],H1) ∧ H1.length = H.length ∧ Tbl H1 a b q ids w (b83 l (fun f=>b4p c ord f ps) (fr / 64) fo l.length) fr:=by
 have hnl:=hc.len
 have hki:=a37 c.nodes 0
 have hk14:=a37 c.nodes 14
 have hpi:=fun H=>b2x (d:=false) H rp ps d7b Pat.ic Pat.ins e6s (kinds c.nodes 0).length (by omega) hpl (fun p hm=>⟨(hp p hm).ins,(hp p hm).inv⟩)
 have hps:=fun H=>b2x (d:=false) H rp ps d79 Pat.sc Pat.sts e6r (kinds c.nodes 14).length (by omega) hpl (fun p hm=>⟨(hp p hm).sts,(hp p hm).stv⟩)
 have hvl:(d1a c ps).length = (kinds c.nodes 0).length:=b2y _ _
 have hsl:(d19 c ps).length = (kinds c.nodes 14).length:=b2y _ _
 have hhw:∀ f:Flt,b4p c ord f ps = if ps.length < 64 then b5o c ord f (d1a c ps) (d19 c ps) &&& (BitVec.ofInt 64 1 <<< ps.length - BitVec.ofInt 64 1) else b5o c ord f (d1a c ps) (d19 c ps):=fun _=>rfl
 rw [show a5a (ps.map Pat.ins) (kinds c.nodes 0).length = d1a c ps from rfl] at hpi
 rw [show a5a (ps.map Pat.sts) (kinds c.nodes 14).length = d19 c ps from rfl] at hps
 generalize d1a c ps = vi at hpi hvl hhw
 generalize d19 c ps = vs at hps hsl hhw
 have hr0:=fun d H=>c2a (d:=d) H c hc ord ho hol net0V pin0V hk0 (e34 _) (e2t _) (some (some (kinds c.nodes 0).length)) (some (some (kinds c.nodes 14).length)) vi vs hvl hsl
 have hgl:((a2b c ord).nets a20 hk0 vi vs).length = c.nodes.length:=b01 _ _ _ _ _
 have hwh:=fun H f hfm=>c42 (d:=true) H c ord f hfm (some (some c.nodes.length)) ((a2b c ord).nets a20 hk0 vi vs) hgl
 have hrf:=fun H (f:Flt) (hfm:FltOk c.nodes f)=>c2a (d:=true) H c hc ord ho hol _ _ (hkF f (a16 a20 ((a2b c ord).nets a20 hk0 vi vs) f)) (e25 _ f hfm.model _) (e24 _ f _) (some (some (kinds c.nodes 0).length)) (some (some (kinds c.nodes 14).length)) vi vs hvl hsl
 have hct:=fun H (f:Flt)=>b7l (d:=false) H none none ((a2b c ord).seen a20 hk0 ((a2b c ord).nets a20 hk0 vi vs)) ((a2b c ord).seen a20 (hkF f (a16 a20 ((a2b c ord).nets a20 hk0 vi vs) f)) ((a2b c ord).nets a20 (hkF f (a16 a20 ((a2b c ord).nets a20 hk0 vi vs) f)) vi vs)) (by rw [b6f,b6f];omega) (by rw [b6f];have:=hc.outl;omega)
 have hraw:∀ f:Flt,b84 ((a2b c ord).seen a20 hk0 ((a2b c ord).nets a20 hk0 vi vs)) ((a2b c ord).seen a20 (hkF f (a16 a20 ((a2b c ord).nets a20 hk0 vi vs) f)) ((a2b c ord).nets a20 (hkF f (a16 a20 ((a2b c ord).nets a20 hk0 vi vs) f)) vi vs)) 0 = b5o c ord f vi vs:=fun _=>rfl
 simp only [hraw] at hct
 generalize hG:(a2b c ord).nets a20 hk0 vi vs = G at hr0 hgl hwh hrf hct hraw
 generalize hS:(a2b c ord).seen a20 hk0 G = SG at hr0 hct
 obtain ⟨r0,e3⟩:=a2g (kinds c.nodes 0)
 obtain ⟨r1,e4⟩:=a2g (kinds c.nodes 14)
 have hxfl:a0e (a58 c ord net0V pin0V) = []:=a7h _ _ _ _ rfl rfl
 have hxR:FlatR [a58 c ord net0V pin0V]:=FlatR.cons hxfl FlatR.nil
 have hEe:a58 c ord net0V pin0V = [sl c.nc (c.nodes.map Nd.enc),sl c.mc (c.names.map a1r),.nilslice,sl c.oc (c.outs.map a0d),.islice (ord.map a0d) (some c.nodes.length),sl r0 ((kinds c.nodes 0).map a0d),sl r1 ((kinds c.nodes 14).map a0d),net0V,pin0V]:=by unfold a58;rw [e3,e4]
 simp only [a6j] at hr0 hwh hrf
 generalize hm:H.length = m at ht
 suffices hs:∃ r:AV × a05,(∃ H1,r = (.tuple [],H1) ∧ H1.length = m ∧ Tbl H1 a b q ids w (b83 l (fun f=>b4p c ord f ps) (fr / 64) fo l.length) fr) ∧ sem L.env Mf 52 [.agg (a58 c ord net0V pin0V),sl rl (l.map Flt.enc),sl rp (ps.map Pat.enc),c0k a q] H = some r by
  obtain ⟨r,⟨H1,rfl,h1,h2⟩,h3⟩:=hs
  exact ⟨H1,h3,h1,h2⟩
 have hnet:refs net0V = []:=rfl
 have hpin:refs pin0V = []:=rfl
 unfold d7b at hpi
 unfold d79 at hps
 unfold c0k
 have hfr0:∀ i,a1q [1,2,3,4,8,9,10,11,34,35] [(1,sl rl (l.map Flt.enc)),(2,sl rp (ps.map Pat.enc)),(3,c0k a q),(4,AV.ptr m 0 0),(8,.islice (vi.map W.enc) (some (kinds c.nodes 0).length)),(9,.islice (vs.map W.enc) (some (kinds c.nodes 14).length)),(10,.islice (G.map W.enc) (some c.nodes.length)),(11,sl none (SG.map W.enc)),(34,.int .i64 l.length),(35,.int .i64 (i:Nat))] = [(1,sl rl (l.map Flt.enc)),(2,sl rp (ps.map Pat.enc)),(3,c0k a q),(4,AV.ptr m 0 0),(8,.islice (vi.map W.enc) (some (kinds c.nodes 0).length)),(9,.islice (vs.map W.enc) (some (kinds c.nodes 14).length)),(10,.islice (G.map W.enc) (some c.nodes.length)),(11,sl none (SG.map W.enc)),(34,.int .i64 l.length),(35,.int .i64 (i:Nat))]:=fun i=>by simp +decide only [go_sem,a1q]
 have hhead:∀ (F:Frm) (H2:a05) (i:Nat),a1q [1,2,3,4,8,9,10,11,34,35] F = [(1,sl rl (l.map Flt.enc)),(2,sl rp (ps.map Pat.enc)),(3,c0k a q),(4,AV.ptr m 0 0),(8,.islice (vi.map W.enc) (some (kinds c.nodes 0).length)),(9,.islice (vs.map W.enc) (some (kinds c.nodes 14).length)),(10,.islice (G.map W.enc) (some c.nodes.length)),(11,sl none (SG.map W.enc)),(34,.int .i64 l.length),(35,.int .i64 (i:Nat))] →
  TSt H2 m a b q ids w (b83 l (fun f=>b4p c ord f ps) (fr / 64) fo i) fr → a02 H2 m = some (.row 9 [a58 c ord net0V pin0V]) →
  ∃ F1 H1,gcD m [1,2,3,4,8,9,10,11,34,35] F H2 = some (F1,H1) ∧ F1 = [(1,sl rl (l.map Flt.enc)),(2,sl rp (ps.map Pat.enc)),(3,c0k a q),(4,AV.ptr m 0 0),(8,.islice (vi.map W.enc) (some (kinds c.nodes 0).length)),(9,.islice (vs.map W.enc) (some (kinds c.nodes 14).length)),(10,.islice (G.map W.enc) (some c.nodes.length)),(11,sl none (SG.map W.enc)),(34,.int .i64 l.length),(35,.int .i64 (i:Nat))] ∧ TSt H1 m a b q ids w (b83 l (fun f=>b4p c ord f ps) (fr / 64) fo i) fr ∧ a02 H1 m = some (.row 9 [a58 c ord net0V pin0V]) ∧ H1.length = m + 1:=by
  intro F H2 i hkF ht2 hx2
  have hrefs:a0e ((a1q [1,2,3,4,8,9,10,11,34,35] F).map (·.2)) = [a,q,m]:=by rw [hkF];simp only [c0k,List.map_cons,List.map_nil,a09,a1u,a2f,b8i,b22,a5o,a9a,b23,List.append_nil,List.nil_append,List.cons_append]
  have ha:=ht2.bnd a (Tbl.mem_blocks.2 (.inl rfl))
  have hq:=ht2.bnd q (Tbl.mem_blocks.2 (.inr (.inr (.inl rfl))))
  obtain ⟨H1,k1,k2,k3,k4,k5⟩:=ht2.head (keep:=[1,2,3,4,8,9,10,11,34,35]) (F:=F) hx2 (a0u hxR) (FlatO.row hxR) (by rw [b2e];omega) (by rw [hrefs];intro x hx;simp only [List.mem_cons,List.not_mem_nil,or_false] at hx;omega) (by rw [hrefs];simp) (by rw [hrefs];simp) (by rw [hrefs];simp) (by rw [hrefs];simp) (by
   rw [hrefs];intro x hx
   simp only [List.mem_cons,List.not_mem_nil,or_false] at hx
   rcases hx with rfl|rfl|rfl;exact .inr (.inl (Tbl.mem_blocks.2 (.inl rfl)));exact .inr (.inl (Tbl.mem_blocks.2 (.inr (.inr (.inl rfl)))));exact .inl rfl)
  exact ⟨_,H1,k1,hkF,k2,k3,k4⟩
 unfold c0k at hhead
 (refine svE Tryz.f52 ?_;simp only [Tryz.f52,gS])
 rw [hEe] at hr0 hwh ⊢
 rw [hm]
 have hHm:∀ L:a05,a02 (H ++ L) m = a02 L 0:=by intro L;rw [← hm];exact a55
 (repeat first|simp only [ww]|(apply xa;simp +decide only [go_sem,hHm,hpi,hps,hr0,hm,a8c];rfl;kernel_rfl))
 refine a30 kp52_0 (fun n F H1=>∃ i,n = l.length - i ∧ i ≤ l.length ∧ F = [(1,sl rl (l.map Flt.enc)),(2,sl rp (ps.map Pat.enc)),(3,c0k a q),(4,AV.ptr m 0 0),(8,.islice (vi.map W.enc) (some (kinds c.nodes 0).length)),(9,.islice (vs.map W.enc) (some (kinds c.nodes 14).length)),(10,.islice (G.map W.enc) (some c.nodes.length)),(11,sl none (SG.map W.enc)),(34,.int .i64 l.length),(35,.int .i64 (i:Nat))] ∧ TSt H1 m a b q ids w (b83 l (fun f=>b4p c ord f ps) (fr / 64) fo i) fr ∧ a02 H1 m = some (.row 9 [a58 c ord net0V pin0V]) ∧ H1.length = m + 1) (l.length - 0) ?_ ?_
 ·have htg:=TSt.grow (L:=[some (AObj.row 9 [a58 c ord net0V pin0V])]) (hm.symm ▸ ht)
  rw [hm] at htg
  rw [hEe] at htg
  refine exi (hhead _ _ 0 (by simp +decide only [go_sem,a1q]<;>rfl) (by rw [c9c];exact htg) (by rw [hHm,hEe];rfl)) ?_
  rintro F3 H3 ⟨k2,k3,k4,k5⟩
  exact ⟨0,rfl,Nat.zero_le _,k2,k3,k4,k5⟩
 ·rintro n F H1 ⟨i,rfl,hi,rfl,ht1,hx1,hlen1⟩
  have hx1':=hx1
  rw [hEe] at hx1'
  by_cases hlt:i < l.length
  ·obtain ⟨f,hfi⟩:∃ f,l[i]? = some f:=⟨_,List.getElem?_eq_getElem hlt⟩
   have hfm:=hf f (List.mem_of_getElem? hfi)
   obtain ⟨r,hr⟩:∃ r,fo[i]? = some r:=⟨_,List.getElem?_eq_getElem (by omega)⟩
   have hgt:=d3p (l:=l) (hit:=fun f=>b4p c ord f ps) (k:=fr / 64) hr
   have hsc:=c9d (hit:=fun f=>b4p c ord f ps) (k:=fr / 64) hfi hr
   obtain ⟨H2,σ,hcb,ht2,hl2,hout2⟩:=c6b (d:=false) ht1 (by omega) (by rw [b2e];omega) i r hgt hk hfr (b4p c ord f ps)
   rw [hsc] at ht2
   have hmn:m ∉ Tbl.blocks a b q ids (b83 l (fun f=>b4p c ord f ps) (fr / 64) fo i).length:=by
    rw [b2e];intro hm2;have:=ht.bnd m hm2;omega
   have hx2:=(hout2 m hmn).trans hx1
   have c1:(i:Int) < l.length:=by omega
   have hwi:=wI1 (n:=i) (by omega)
   have hwf:=fun H=>hwh H f hfm
   have hrff:=fun H=>hrf H f hfm
   have hctf:=fun H=>hct H f
   simp only [Flt.enc] at hwf
   unfold c0k
   have hml:m < H1.length:=by omega
   have hhwf:=hhw f
   by_cases h64:ps.length < 64
   ·have c2:(ps.length:Int) < 64:=by omega
    rw [if_pos h64] at hhwf
    rw [hhwf] at hcb
    have c0:¬ (ps.length:Int) < 0:=by omega
    (repeat first|simp only [ww]|(apply xa;simp +decide only [go_sem,c0,c1,hlt,hfi,hwi,hx1',hml,hwf,hrff,hctf,c2,hcb];rfl;kernel_rfl))
    refine a17 (l.length - (i + 1)) (by omega) ?_
    refine exi (hhead _ _ (i + 1) (by simp +decide only [go_sem,a1q]<;>rfl) ht2 hx2) ?_
    rintro F3 H3 ⟨k2,k3,k4,k5⟩
    exact ⟨i + 1,rfl,hlt,k2,k3,k4,k5⟩
   ·have c2:¬ (ps.length:Int) < 64:=by omega
    rw [if_neg h64] at hhwf
    rw [hhwf] at hcb
    (repeat first|simp only [ww]|(apply xa;simp +decide only [go_sem,c1,hlt,hfi,hwi,hx1',hml,hwf,hrff,hctf,c2,hcb];rfl;kernel_rfl))
    refine a17 (l.length - (i + 1)) (by omega) ?_
    refine exi (hhead _ _ (i + 1) (by simp +decide only [go_sem,a1q]<;>rfl) ht2 hx2) ?_
    rintro F3 H3 ⟨k2,k3,k4,k5⟩
    exact ⟨i + 1,rfl,hlt,k2,k3,k4,k5⟩
  ·obtain rfl:i = l.length:=by omega
   have c1:¬ (l.length:Int) < l.length:=by omega
   (repeat first|simp only [ww]|(apply xa;simp +decide only [go_sem,c1];rfl;kernel_rfl))
   generalize hfoT:b83 l (fun f=>b4p c ord f ps) (fr / 64) fo l.length = FT at ht1 ⊢
   have hid:∀ c o,c < m → a02 H1 c = some o → (∀ d ∈ a0w (some o),d < m) → a02 ((H1.take m).map (Option.map (a0v (a1k m)))) c = some o:=by
    intro c o hcm hco hd
    have hb:∀ d,d < m → a1k m d = some d:=fun d hd=>by rw [a72];simp [hd]
    unfold a02 at hco ⊢
    rw [List.getElem?_map,List.getElem?_take,if_pos hcm]
    cases hcc:H1[c]? with
    | none=>rw [hcc] at hco;cases hco
    | some o'=>
     rw [hcc] at hco
     simp only [Option.join_some] at hco
     subst hco
     simp only [Option.map_some,Option.join_some]
     rw [b0y hb o hd]
   have hbl:∀ c o,c ∈ Tbl.blocks a b q ids FT.length → a02 H1 c = some o → a02 ((H1.take m).map (Option.map (a0v (a1k m)))) c = some o:=by
    intro c o hcb hco
    refine hid c o (ht1.bnd c hcb) hco fun d hd=>ht1.bnd d (ht1.tbl.closed c hcb d (by rw [hco];exact hd))
   refine a5b (vs:=[]) (r:=(.tuple [],(H1.take m).map (Option.map (a0v (a1k m))))) (by simp +decide only [go_sem]) (by rw [show L.env.thaw 52 = false from rfl,a8i];rfl) ⟨_,rfl,by simp;omega,?_⟩
   ·refine ht1.tbl.same fun c hc=>?_
    have hcb:=Tbl.mem_blocks.2 hc
    cases hco:a02 H1 c with
    | some o=>exact hbl c o hcb hco
    | none=>
     exfalso
     rcases hc with rfl|rfl|rfl|⟨j,hj,rfl⟩
     ·rw [ht1.tbl.out] at hco;cases hco
     ·rw [ht1.tbl.top] at hco;cases hco
     ·rw [ht1.tbl.frm] at hco;cases hco
     ·obtain ⟨f',hf'⟩:∃ f',FT[j]? = some f':=⟨_,List.getElem?_eq_getElem hj⟩
      rw [(ht1.tbl.sub j f' hf').1] at hco;cases hco
end Go.MInst
