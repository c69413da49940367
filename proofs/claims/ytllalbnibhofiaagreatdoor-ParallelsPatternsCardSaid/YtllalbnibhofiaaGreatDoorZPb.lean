/- Part of a proof. No condition. -/
import Derived.Test.YtllalbnibhofiaaGreatDoorZPa
import Derived.Test.YtllalbnibhofiaaGreatDoorPcC
import Derived.Test.YtllalbnibhofiaaGreatDoorAxF
set_option linter.unusedSimpArgs false
set_option linter.unusedVariables false
namespace Go.ZInst
open Go.Proofs Go.Ax Go.Pc
set_option maxRecDepth 100000
theorem avx (ca cb:Rep) (a b:List W) (hab:a.length ≤ b.length) (hl:a.length < 1000000):sem L.env Mf 25 [sl ca (a.map W.enc),sl cb (b.map W.enc)] [] = some (u64 (asb a b 0),[]):=by
 rw [← bdg a b 0 hab]
 (refine sv Tryz.f25 ?_;simp only [Tryz.f25,gS])
 (repeat first|simp only [ww]|(apply xa;simp +decide only [go_sem];rfl;kernel_rfl))
 refine ab3 (σ:=Nat) kp25_0 (fun i=>[(0,sl ca (a.map W.enc)),(1,sl cb (b.map W.enc)),(4,u64 (asb (a.take i) (b.take i) 0)),(9,.int .i64 a.length),(10,.int .i64 i)]) (fun _=>[]) (fun i=>a.length - i) (fun i=>i ≤ a.length) 0 ?_ (Nat.zero_le _) ?_
 ·have e:asb (a.take 0) (b.take 0) 0 = BitVec.ofInt 64 0:=by rw [List.take_zero];rfl
  (simp +decide only [go_sem,aa1,aa0,e]<;>rfl)<;>rfl
 ·intro i hi
  by_cases hlt:i < a.length
  ·obtain ⟨x,hx⟩:∃ x,a[i]? = some x:=⟨_,List.getElem?_eq_getElem hlt⟩
   obtain ⟨y,hy⟩:∃ y,b[i]? = some y:=⟨_,List.getElem?_eq_getElem (by omega)⟩
   have c1:(i:Int) < a.length:=by omega
   have hib:i < b.length:=by omega
   have hw:=wI1 (n:=i) (by omega)
   have hs:=bdf hx hy
   (repeat first|simp only [ww]|(apply xa;simp +decide only [go_sem,c1,hlt,hx,hy,hib,hw];rfl;kernel_rfl))
   refine ac6 (i + 1) ?_ (by omega) (by omega)
   rw [hs]
   (simp +decide only [go_sem,aa1,aa0,ctr]<;>rfl)
  ·obtain rfl:i = a.length:=by omega
   have c1:¬ (a.length:Int) < a.length:=by omega
   rw [List.take_length]
   (repeat first|simp only [ww]|(apply xa;simp +decide only [go_sem,c1];rfl;kernel_rfl))
   (apply fqb;simp +decide only [go_sem]<;>rfl)
theorem akv {d:Bool} (H:aa4) (ca cb:Rep) (a b:List W) (hab:a.length ≤ b.length) (hl:a.length < 1000000):aaa L.env d (sem L.env Mf) (.func (.func 25) [] []) [sl ca (a.map W.enc),sl cb (b.map W.enc)] H = some (u64 (asb a b 0),H,[]):=
 aa3 (by kernel_rfl) (by kernel_rfl) rfl (by simp only [List.nil_append,List.append_nil,aa7,go_sem]) (avx ca cb a b hab hl) rfl
theorem aqn {d:Bool} {H:aa4} {b:Nat} (k:Nat) (hk:k < 16) (l:List W) (hl:l.length < 1000) {n:Int} (hn:n = k) {m:Nat} (hm:m = l.length) (hb:aa2 H b = some (.row 2 (l.map W.enc))):aaa L.env d (sem L.env Mf) (.func (.func 46) [] []) [.int .u8 n,.slice b 0 m (some m)] H = some (.agg (ae5 k l).enc,H,[b]):=by
 subst hn;subst hm
 exact aca (fs:=[]) (cs:=[]) (ar:=[.int .u8 k,.slice b 0 l.length (some l.length)]) (by kernel_rfl) (by kernel_rfl) rfl hb (aad (aok l)) (FlatO.row (aok l)) rfl (args':=[.int .u8 k,.slice 0 0 l.length (some l.length)]) (by simp only [List.nil_append,List.append_nil,List.map_cons,List.map_nil,ac0];rfl) (bh4 k hk l hl) rfl
theorem azx (nodes:List Nd) (f:Flt) (hf:FltOk nodes f) (hm:f.model ≠ 0) (r:Rep) (good:List W) (hg:good.length = nodes.length):sem L.env Mf 49 [.agg f.enc,sl r (good.map W.enc)] [] = some (.agg (ab0 abq good f).enc,[]):=by
 have hn:=hf.node
 have ho:=hf.other
 obtain ⟨a,ha⟩:∃ a,good[f.node]? = some a:=⟨_,List.getElem?_eq_getElem (by omega)⟩
 obtain ⟨b,hb⟩:∃ b,good[f.other]? = some b:=⟨_,List.getElem?_eq_getElem (by omega)⟩
 have hnl:f.node < good.length:=by omega
 have hol:f.other < good.length:=by omega
 have hmm:f.model = 2 ∨ f.model = 3:=by rcases hf.model with e|e|e;exact absurd e hm;exact .inl e;exact .inr e
 rcases hmm with e|e
 ·have c1:¬ (((2:Nat):Int) = 3):=by decide
  by_cases hv:f.value = 0
  ·have hF:ab0 abq good f = ae5 5 [a,b]:=by
    unfold ab0;rw [if_neg hm,if_neg (by omega),if_pos hv];simp [List.getD,ha,hb];rfl
   rw [hF]
   have he:=fun X Y=>aqn (d:=true) (H:=[X,Y,some (.row 2 ([a,b].map W.enc))]) (b:=2) 5 (by omega) [a,b] (by simp) (n:=5) rfl (m:=2) rfl rfl
   generalize ae5 5 [a,b] = v at he
   simp only [List.map_cons,List.map_nil,W.enc] at he
   simp only [Flt.enc,e,hv]
   (refine sv Tryz.f49 ?_;simp only [Tryz.f49,gS])
   (repeat first|simp only [ww]|(apply xa;simp +decide only [go_sem,ha,hb,hnl,hol,he];rfl;kernel_rfl))
   (apply fqb;simp +decide only [go_sem]<;>rfl)
  ·have cv:¬ (f.value:Int) = 0:=by omega
   have hF:ab0 abq good f = ae5 7 [a,b]:=by
    unfold ab0;rw [if_neg hm,if_neg (by omega),if_neg hv];simp [List.getD,ha,hb];rfl
   rw [hF]
   have he:=fun X Y=>aqn (d:=true) (H:=[X,Y,some (.row 2 ([a,b].map W.enc))]) (b:=2) 7 (by omega) [a,b] (by simp) (n:=7) rfl (m:=2) rfl rfl
   generalize ae5 7 [a,b] = v at he
   simp only [List.map_cons,List.map_nil,W.enc] at he
   simp only [Flt.enc,e]
   (refine sv Tryz.f49 ?_;simp only [Tryz.f49,gS])
   (repeat first|simp only [ww]|(apply xa;simp +decide only [go_sem,ha,hb,hnl,hol,he,cv];rfl;kernel_rfl))
   (apply fqb;simp +decide only [go_sem]<;>rfl)
 ·have hF:ab0 abq good f = b:=by
   unfold ab0;rw [if_neg hm,if_pos e];simp [List.getD,hb]
  rw [hF]
  simp only [Flt.enc,e]
  (refine sv Tryz.f49 ?_;simp only [Tryz.f49,gS])
  (repeat first|simp only [ww]|(apply xa;simp +decide only [go_sem,hb,hol];rfl;kernel_rfl))
  (apply fqb;simp +decide only [go_sem]<;>rfl)
theorem au9 {d:Bool} (H:aa4) (nodes:List Nd) (f:Flt) (hf:FltOk nodes f) (hm:f.model ≠ 0) (r:Rep) (good:List W) (hg:good.length = nodes.length):aaa L.env d (sem L.env Mf) (.func (.func 49) [] []) [.agg f.enc,sl r (good.map W.enc)] H = some (.agg (ab0 abq good f).enc,H,[]):=
 aa3 (by kernel_rfl) (by kernel_rfl) rfl (by simp only [List.nil_append,List.append_nil,aa7,aaw,Flt.enc,go_sem]) (azx nodes f hf hm r good hg) rfl
/- one fault in all lanes -/
def bjr (f:Flt) (w:W):AV:=.func (.func 73) [] [.iptr f.enc,.iptr w.enc]
def bp0 (f:Flt) (w:W):AV:=.func (.func 72) [] [.iptr f.enc,.iptr w.enc]
theorem bjq (f:Flt) (hp:f.pin < 0) (hmm:f.model = 0 ∨ f.model = 2 ∨ f.model = 3) (v w:W) (n:Nat):sem L.env Mf 73 [.int .i64 n,.agg w.enc,.iptr f.enc,.iptr v.enc] [] = some (.agg ((hkF f v).net n w).enc,[]):=by
 have hH:(hkF f v).net n w = if n = f.node ∨ (f.model = 2 ∧ n = f.other) then v else w:=by
  unfold hkF Flt.hitsNet
  simp only [decide_eq_true hp,Bool.true_and,Bool.or_eq_true,Bool.and_eq_true,decide_eq_true_eq]
 rw [hH]
 simp only [Flt.enc]
 by_cases h1:n = f.node
 ·have c1:decide ((n:Int) = f.node) = true:=decide_eq_true (by omega)
  rw [if_pos (.inl h1)]
  (refine sv Tryz.f73 ?_;simp only [Tryz.f73,gS])
  (repeat first|simp only [ww]|(apply xa;simp +decide only [go_sem,c1];rfl;kernel_rfl))
  (apply fqb;simp +decide only [go_sem]<;>rfl)
 have c1:¬ (n:Int) = f.node:=by omega
 by_cases h2:f.model = 2
 ·have c2:decide ((f.model:Int) = 2) = true:=decide_eq_true (by omega)
  by_cases h3:n = f.other
  ·have c3:decide ((n:Int) = f.other) = true:=decide_eq_true (by omega)
   rw [if_pos (.inr ⟨h2,h3⟩)]
   (refine sv Tryz.f73 ?_;simp only [Tryz.f73,gS])
   (repeat first|simp only [ww]|(apply xa;simp +decide only [go_sem,c1,c2,c3];rfl;kernel_rfl))
   (apply fqb;simp +decide only [go_sem]<;>rfl)
  ·have c3:¬ (n:Int) = f.other:=by omega
   rw [if_neg (by rintro (h|⟨_,h⟩);exact h1 h;exact h3 h)]
   (refine sv Tryz.f73 ?_;simp only [Tryz.f73,gS])
   (repeat first|simp only [ww]|(apply xa;simp +decide only [go_sem,c1,c2,c3];rfl;kernel_rfl))
   (apply fqb;simp +decide only [go_sem]<;>rfl)
 ·have c2:¬ (f.model:Int) = 2:=by omega
  rw [if_neg (by rintro (h|⟨h,_⟩);exact h1 h;exact h2 h)]
  (refine sv Tryz.f73 ?_;simp only [Tryz.f73,gS])
  (repeat first|simp only [ww]|(apply xa;simp +decide only [go_sem,c1,c2];rfl;kernel_rfl))
  (apply fqb;simp +decide only [go_sem]<;>rfl)
theorem bjn (f:Flt) (hp:0 ≤ f.pin) (v w:W) (n p:Nat):sem L.env Mf 72 [.int .i64 n,.int .i64 p,.agg w.enc,.iptr f.enc,.iptr v.enc] [] = some (.agg ((hkF f v).pin n p w).enc,[]):=by
 have hH:(hkF f v).pin n p w = if n = f.node ∧ (p:Int) = f.pin then v else w:=by
  unfold hkF Flt.hitsPin
  simp only [decide_eq_true hp,Bool.true_and,Bool.and_eq_true,decide_eq_true_eq]
 rw [hH]
 simp only [Flt.enc]
 by_cases h1:n = f.node
 ·have c1:decide ((n:Int) = f.node) = true:=decide_eq_true (by omega)
  by_cases h2:(p:Int) = f.pin
  ·have c2:decide ((p:Int) = f.pin) = true:=decide_eq_true h2
   rw [if_pos ⟨h1,h2⟩]
   (refine sv Tryz.f72 ?_;simp only [Tryz.f72,gS])
   (repeat first|simp only [ww]|(apply xa;simp +decide only [go_sem,c1,c2];rfl;kernel_rfl))
   (apply fqb;simp +decide only [go_sem]<;>rfl)
  ·rw [if_neg (fun h=>h2 h.2)]
   (refine sv Tryz.f72 ?_;simp only [Tryz.f72,gS])
   (repeat first|simp only [ww]|(apply xa;simp +decide only [go_sem,c1,h2];rfl;kernel_rfl))
   (apply fqb;simp +decide only [go_sem]<;>rfl)
 ·have c1:¬ (n:Int) = f.node:=by omega
  rw [if_neg (fun h=>h1 h.1)]
  (refine sv Tryz.f72 ?_;simp only [Tryz.f72,gS])
  (repeat first|simp only [ww]|(apply xa;simp +decide only [go_sem,c1];rfl;kernel_rfl))
  (apply fqb;simp +decide only [go_sem]<;>rfl)
theorem az7 {f:Flt} (hp:0 ≤ f.pin) (v:W):(hkF f v).net = (hk0:Hk W).net:=by
 funext n w;unfold hkF Flt.hitsNet hk0;simp [show ¬ f.pin < 0 by omega]
theorem az6 {f:Flt} (hp:f.pin < 0) (v:W):(hkF f v).pin = (hk0:Hk W).pin:=by
 funext n p w;unfold hkF Flt.hitsPin hk0;simp [show ¬ 0 ≤ f.pin by omega]
def bjt (f:Flt) (w:W):AV:=if f.pin < 0 then bjr f w else net0V
def bjp (f:Flt) (w:W):AV:=if f.pin < 0 then pin0V else bp0 f w
theorem bjs (N:Nat) (f:Flt) (hmm:f.model = 0 ∨ f.model = 2 ∨ f.model = 3) (w:W):NetF N (bjt f w) (hkF f w).net:=by
 unfold bjt
 by_cases h:f.pin < 0
 ·rw [if_pos h]
  exact ⟨rfl,fun d H n x _=>aa3 (by kernel_rfl) (by kernel_rfl) rfl rfl (bjq f h hmm w x n) rfl⟩
 ·rw [if_neg h,az7 (by omega)];exact bl8 N
theorem bjo (N:Nat) (f:Flt) (w:W):PinF N (bjp f w) (hkF f w).pin:=by
 unfold bjp
 by_cases h:f.pin < 0
 ·rw [if_pos h,az6 h];exact bkw N
 ·rw [if_neg h]
  exact ⟨rfl,fun d H n p x _=>aa3 (by kernel_rfl) (by kernel_rfl) rfl rfl (bjn f (by omega) w x n p) rfl⟩
theorem bex (c:Cir) (ord:List Nat) (f:Flt) (hf:FltOk c.nodes f) (r:Rep) (good:List W) (hg:good.length = c.nodes.length):sem L.env Mf 44 [.agg (adp c ord net0V pin0V),.agg f.enc,sl r (good.map W.enc)] [] = some (.agg (adp c ord (bjt f (ab0 abq good f)) (bjp f (ab0 abq good f))),[]):=by
 have hfl:=fun H=>aom (d:=false) H f.value (by have:=hf.value;omega)
 obtain ⟨r0,e3⟩:=ac3 (kinds c.nodes 0)
 obtain ⟨r1,e4⟩:=ac3 (kinds c.nodes 14)
 simp only [W.enc] at hfl
 by_cases hm:f.model = 0
 ·have hF:ab0 abq good f = acu f.value:=by unfold ab0;rw [if_pos hm];rfl
  rw [hF]
  generalize acu f.value = v at hfl
  by_cases hp:f.pin < 0
  ·have cp:¬ 0 ≤ f.pin:=by omega
   unfold bjt bjp
   rw [if_pos hp,if_pos hp]
   unfold adp net0V pin0V bjr
   rw [e3,e4]
   simp only [Flt.enc,hm]
   (refine sv Tryz.f44 ?_;simp only [Tryz.f44,gS])
   (repeat first|simp only [ww]|(apply xa;simp +decide only [go_sem,hfl,cp];rfl;kernel_rfl))
   (apply fqb;simp +decide only [go_sem]<;>rfl)
  ·have cp:0 ≤ f.pin:=by omega
   unfold bjt bjp
   rw [if_neg hp,if_neg hp]
   unfold adp net0V pin0V bp0
   rw [e3,e4]
   simp only [Flt.enc,hm]
   (refine sv Tryz.f44 ?_;simp only [Tryz.f44,gS])
   (repeat first|simp only [ww]|(apply xa;simp +decide only [go_sem,hfl,cp];rfl;kernel_rfl))
   (apply fqb;simp +decide only [go_sem]<;>rfl)
 ·have hb:=fun H=>au9 (d:=false) H c.nodes f hf hm r good hg
  have hp:f.pin < 0:=by have:=(hf.bridge hm).1;omega
  have cp:¬ 0 ≤ f.pin:=by omega
  have cm:¬ (f.model:Int) = 0:=by omega
  generalize ab0 abq good f = v at hb
  unfold bjt bjp
  rw [if_pos hp,if_pos hp]
  unfold adp net0V pin0V bjr
  rw [e3,e4]
  simp only [Flt.enc,W.enc] at hb
  simp only [Flt.enc]
  (refine sv Tryz.f44 ?_;simp only [Tryz.f44,gS])
  (repeat first|simp only [ww]|(apply xa;simp +decide only [go_sem,hfl,cp,cm,hb];rfl;kernel_rfl))
  (apply fqb;simp +decide only [go_sem]<;>rfl)
theorem aps {d:Bool} (H:aa4) (c:Cir) (ord:List Nat) (f:Flt) (hf:FltOk c.nodes f) (r:Rep) (good:List W) (hg:good.length = c.nodes.length):aaa L.env d (sem L.env Mf) (.func (.func 44) [] []) [.agg (adp c ord net0V pin0V),.agg f.enc,sl r (good.map W.enc)] H = some (.agg (adp c ord (bjt f (ab0 abq good f)) (bjp f (ab0 abq good f))),H,[]):=
 aa3 (by kernel_rfl) (by kernel_rfl) rfl (by simp only [List.nil_append,List.append_nil,aa7,aaw,ago c ord net0V pin0V rfl rfl,Flt.enc,go_sem]) (bex c ord f hf r good hg) (by rw [aaw];exact ago _ _ _ _ (bjs 0 f hf.model _).flat (bjo 0 f _).flat)
theorem amm {d:Bool} (H:aa4) (c:Cir) (hc:c.wf) (ord:List Nat) (ho:∀ n ∈ ord,n < c.nodes.length) (hol:ord.length ≤ 1000) (net pin:AV) (g:Hk W) (h0:NetF c.nodes.length net g.net) (h2:PinF c.nodes.length pin g.pin) (ri rs:Rep) (vi vs:List W) (hvi:vi.length = (kinds c.nodes 0).length) (hvs:vs.length = (kinds c.nodes 14).length) :
 aaa L.env d (sem L.env Mf) (.func (.func 23) [] []) [.agg (adp c ord net pin),sl ri (vi.map W.enc),sl rs (vs.map W.enc)] H = some (.tuple [.islice (((ab5 c ord).nets abq g vi vs).map W.enc) (some c.nodes.length),sl none (((ab5 c ord).seen abq g ((ab5 c ord).nets abq g vi vs)).map W.enc)],H,[]):=
 aa3 (by kernel_rfl) (by kernel_rfl) rfl (by simp only [List.nil_append,List.append_nil,aa7,aaw,ago c ord net pin h0.flat h2.flat,go_sem]) (bpg c hc ord ho hol net pin g h0 h2 ri rs vi vs hvi hvs) (by simp only [ah8,aa7,aho,ac2,abf,List.append_nil])
set_option maxHeartbeats 200000000
open Go.Proofs Go.Ax Go.Pc
set_option maxRecDepth 100000
theorem bkd (p:Pat):sem L.env Mf 42 [.agg p.enc] [] = some (sl p.ic (p.ins.map u8R),[]):=by
 simp only [Pat.enc]
 (refine sv Tryz.f42 ?_;simp only [Tryz.f42,gS])
 (repeat first|simp only [ww]|(apply xa;simp +decide only [go_sem];rfl;kernel_rfl))
 (apply fqb;simp +decide only [go_sem]<;>rfl)
theorem bkc (p:Pat):sem L.env Mf 43 [.agg p.enc] [] = some (sl p.sc (p.sts.map u8R),[]):=by
 simp only [Pat.enc]
 (refine sv Tryz.f43 ?_;simp only [Tryz.f43,gS])
 (repeat first|simp only [ww]|(apply xa;simp +decide only [go_sem];rfl;kernel_rfl))
 (apply fqb;simp +decide only [go_sem]<;>rfl)
/-- Word i of patterns: one adb each. -/
def ayp (vs:List (List Nat)) (i:Nat):W:=ad9 (vs.map fun l=>l.getD i 0) 0 zW
def agq (vs:List (List Nat)) (many i:Nat):List W:=(List.range many).map fun j=>if j < i then ayp vs j else zW
def ae9 (vs:List (List Nat)) (many:Nat):List W:=(List.range many).map (ayp vs)
theorem alf (vs:List (List Nat)) (many i:Nat):(agq vs many i).length = many:=by simp [agq]
theorem ayq (vs:List (List Nat)) (many:Nat):agq vs many many = ae9 vs many:=by
 unfold agq ae9
 refine List.map_congr_left fun j hj=>?_
 rw [if_pos (by simpa using hj)]
theorem av9 (vs:List (List Nat)) (many:Nat):agq vs many 0 = List.replicate many zW:=by
 unfold agq
 apply List.ext_getElem?
 intro j
 simp only [List.getElem?_map,List.getElem?_replicate,Nat.not_lt_zero,if_false]
 by_cases h:j < many
 ·rw [List.getElem?_range h];simp [h]
 ·rw [List.getElem?_eq_none (by simpa using h)];simp [h]
theorem alg {vs:List (List Nat)} {many i j:Nat} (h:j < many):(agq vs many i)[j]? = some (if j < i then ayp vs j else zW):=by
 simp [agq,List.getElem?_range h]
theorem ava {vs:List (List Nat)} {many i:Nat} (h:i < many):(agq vs many i).set i (ayp vs i) = agq vs many (i + 1):=by
 apply List.ext_getElem?
 intro j
 rw [List.getElem?_set,alf]
 by_cases hj:j < many
 ·rw [alg hj,alg hj]
  by_cases hij:i = j
  ·subst hij;simp [h]
  ·by_cases h2:j < i
   ·simp [hij,h2,show j < i + 1 by omega]
   ·simp [hij,h2,show ¬ j < i + 1 by omega]
 ·have e:∀ i,(agq vs many i)[j]? = none:=fun i=>List.getElem?_eq_none (by rw [alf];omega)
  rw [e,e]
  simp [show i ≠ j by omega]
/-- A function value that selects values of patterns. -/
structure SelF (f:AV) (rep:Pat → Rep) (sel:Pat → List Nat):Prop where
 flat:refs f = []
 call:∀ (d:Bool) (H:aa4) (p:Pat),aaa L.env d (sem L.env Mf) f [.agg p.enc] H = some (sl (rep p) ((sel p).map u8R),H,[])
def bav:AV:=.func (.func 42) [] []
def bau:AV:=.func (.func 43) [] []
theorem bpd:SelF bav Pat.ic Pat.ins:=⟨rfl,fun d H p=>aa3 (by kernel_rfl) (by kernel_rfl) rfl (by simp only [List.nil_append,List.append_nil,aa7,aaw,Pat.enc,go_sem]) (bkd p) (ac2 _ _)⟩
theorem bpc:SelF bau Pat.sc Pat.sts:=⟨rfl,fun d H p=>aa3 (by kernel_rfl) (by kernel_rfl) rfl (by simp only [List.nil_append,List.append_nil,aa7,aaw,Pat.enc,go_sem]) (bkc p) (ac2 _ _)⟩
theorem bbg (rp:Rep) (ps:List Pat) (f:AV) (rep:Pat → Rep) (sel:Pat → List Nat) (hf:SelF f rep sel) (many:Nat) (hm:many ≤ 1000) (hp:ps.length ≤ 64) (hv:∀ p ∈ ps,(sel p).length = many ∧ ∀ v ∈ sel p,v ≤ 3) :
 sem L.env Mf 41 [sl rp (ps.map Pat.enc),.int .i64 many,f] [] = some (.islice ((ae9 (ps.map sel) many).map W.enc) (some many),[]):=by
 have h1:=hf.flat
 have e1:∀ π,ren π f = f:=fun π=>abc π _ h1
 have hrm:many ≤ 1000000000:=by omega
 rw [← ayq]
 (refine sv Tryz.f41 ?_;simp only [Tryz.f41,gS])
 (repeat first|simp only [ww]|(apply xa;simp +decide only [go_sem,hrm];rfl;kernel_rfl))
 refine ab3 (σ:=Nat) kp41_0 (fun i=>[(0,sl rp (ps.map Pat.enc)),(2,f),(7,.slice 0 0 many (some many)),(14,.int .i64 many),(15,.int .i64 i)])
  (fun i=>[some (.row 2 ((agq (ps.map sel) many i).map W.enc))]) (fun i=>many - i) (fun i=>i ≤ many) 0 ?_ (Nat.zero_le _) ?_
 ·rw [av9]
  (simp +decide only [go_sem,aa1,aa0,h1,e1,adm,afl,zW]<;>rfl)<;>rfl
 ·intro i hi
  have hpl:=alf (ps.map sel) many i
  by_cases hlt:i < many
  ·have c1:(i:Int) < many:=by omega
   have hwi:=wI1 (n:=i) (by omega)
   have hsucc:=ava (vs:=ps.map sel) hlt
   have hgi:=alg (vs:=ps.map sel) (i:=i) hlt
   rw [if_neg (Nat.lt_irrefl i)] at hgi
   have hPW:ayp (ps.map sel) i = ad9 ((ps.map sel).map fun l=>l.getD i 0) 0 zW:=rfl
   rw [hPW] at hsucc
   have hVl:((ps.map sel).map fun l=>l.getD i 0).length = ps.length:=by simp
   have hVg:∀ (k:Nat) p,ps[k]? = some p → ((ps.map sel).map fun l=>l.getD i 0)[k]? = some ((sel p).getD i 0):=by intro k p hk;simp [hk]
   generalize ((ps.map sel).map fun l=>l.getD i 0) = V at hsucc hVl hVg
   generalize agq (ps.map sel) many i = N at hpl hsucc hgi
   (repeat first|simp only [ww]|(apply xa;simp +decide only [go_sem,c1];rfl;kernel_rfl))
   refine ab3 (σ:=Nat) kp41_2 (fun k=>[(0,sl rp (ps.map Pat.enc)),(2,f),(7,.slice 0 0 many (some many)),(8,.int .i64 i),(14,.int .i64 many),(15,.int .i64 i),(18,sl rp (ps.map Pat.enc)),(19,.int .i64 ps.length),(20,.int .i64 k)])
    (fun k=>[some (.row 2 ((N.set i (ad9 (V.take k) 0 zW)).map W.enc))]) (fun k=>ps.length - k) (fun k=>k ≤ ps.length) 0 ?_ (Nat.zero_le _) ?_
   ·have e:N.set i (ad9 (V.take 0) 0 zW) = N:=by
     apply List.ext_getElem?
     intro j
     rw [List.getElem?_set]
     by_cases hij:i = j
     ·subst hij;rw [if_pos rfl,if_pos (by omega),hgi];rfl
     ·simp [hij]
    rw [e]
    (simp +decide only [go_sem,aa1,aa0,h1,e1,adm,afl]<;>rfl)<;>rfl
   ·intro k hk
    by_cases hkl:k < ps.length
    ·obtain ⟨p,hpk⟩:∃ p,ps[k]? = some p:=⟨_,List.getElem?_eq_getElem hkl⟩
     obtain ⟨hsl,hsv⟩:=hv p (List.mem_of_getElem? hpk)
     obtain ⟨v,hv2⟩:∃ v,(sel p)[i]? = some v:=⟨_,List.getElem?_eq_getElem (by omega)⟩
     have hv3:=hsv v (List.mem_of_getElem? hv2)
     have c2:(k:Int) < ps.length:=by omega
     have hwk:=wI1 (n:=k) (by omega)
     have hcf:=fun H=>hf.call true H p
     simp only [Pat.enc] at hcf
     have hVk:=hVg k p hpk
     rw [List.getD,hv2,Option.getD_some] at hVk
     have hps:=arm (w:=zW) hVk
     generalize ad9 (V.take k) 0 zW = w at hps
     have hpc:=fun H=>aym (d:=true) H w k v (by omega) (by omega)
     rw [← hps] at hpc
     clear hps
     generalize hw2:ad9 (V.take (k + 1)) 0 zW = w2 at hpc
     simp only [W.enc] at hpc
     have hgw:(N.set i w)[i]? = some w:=by rw [List.getElem?_set];simp;omega
     have hlw:(N.set i w).length = many:=by rw [List.length_set];exact hpl
     have hst:((N.set i w).map W.enc).set i [u64 w2.one,u64 w2.zero] = (N.set i w2).map W.enc:=by
      rw [show [u64 w2.one,u64 w2.zero] = W.enc w2 from rfl,← List.map_set,List.set_set]
     have hil:i < (sel p).length:=by omega
     (repeat first|simp only [ww]|(apply xa;simp +decide only [go_sem,c2,hkl,hpk,hwk,hcf,hpc,hgw,hlw,hst,hlt,hv2,hil];rfl;kernel_rfl))
     refine ac6 (k + 1) ?_ (by omega) (by omega)
     (simp +decide only [go_sem,aa1,aa0,h1,e1,adm,afl,hw2]<;>rfl)<;>rfl
    ·obtain rfl:k = ps.length:=by omega
     have c2:¬ (ps.length:Int) < ps.length:=by omega
     rw [List.take_of_length_le (by omega),hsucc]
     (repeat first|simp only [ww]|(apply xa;simp +decide only [go_sem,c2,hwi];rfl;kernel_rfl))
     refine ac6 (i + 1) ?_ (by omega) (by omega)
     (simp +decide only [go_sem,aa1,aa0,h1,e1,adm,afl]<;>rfl)<;>rfl
  ·obtain rfl:i = many:=by omega
   have c1:¬ (i:Int) < i:=by omega
   generalize agq (ps.map sel) i i = N at hpl
   subst hpl
   (repeat first|simp only [ww]|(apply xa;simp +decide only [go_sem,c1];rfl;kernel_rfl))
   (apply fqb;simp +decide only [go_sem,bgz]<;>rfl)
theorem ahr {d:Bool} (H:aa4) (rp:Rep) (ps:List Pat) (f:AV) (rep:Pat → Rep) (sel:Pat → List Nat) (hf:SelF f rep sel) (many:Nat) (hm:many ≤ 1000) (hp:ps.length ≤ 64) (hv:∀ p ∈ ps,(sel p).length = many ∧ ∀ v ∈ sel p,v ≤ 3) :
 aaa L.env d (sem L.env Mf) (.func (.func 41) [] []) [sl rp (ps.map Pat.enc),.int .i64 many,f] H = some (.islice ((ae9 (ps.map sel) many).map W.enc) (some many),H,[]):=
 aa3 (by kernel_rfl) (by kernel_rfl) rfl (by simp only [List.nil_append,List.append_nil,aa7,hf.flat,go_sem]) (bbg rp ps f rep sel hf many hm hp hv) rfl
open Go.Proofs Go.Ax Go.Pc
set_option maxRecDepth 100000
theorem bk1 (H:aa4) (a b q:Nat) (ids:Nat → Nat) (w:Nat) (fo:List (List (BitVec 64))) (fr:Nat) (ht:Tbl H a b q ids w fo fr) (hall:∀ c,c < H.length → c ∈ Tbl.blocks a b q ids fo.length) (i:Nat) (f:List (BitVec 64)) (hf:fo[i]? = some f) (hk:fr / 64 < w) (hfr:fr < 1000000) (x:BitVec 64) :
 ∃ H1,sem L.env Mf 20 [.int .i64 i,u64 x,.ptr a 0 0,.ptr q 0 0] H = some (.tuple [],H1) ∧ H1.length = H.length ∧ Tbl H1 a b q ids w (fo.set i (f.set (fr / 64) x)) fr:=by
 have hi:i < fo.length:=(List.getElem?_eq_some_iff.1 hf).1
 obtain ⟨g1,g2,g3,g4,g5⟩:=ht.sub i f hf
 have hout:=ht.out
 have htop:=ht.top
 have hfrm:=ht.frm
 have hw:=wI (n:=fr / 64) (by omega)
 have hget:((List.range fo.length).map fun j=>[AV.slice (ids j) 0 w (some w)])[i]? = some [.slice (ids i) 0 w (some w)]:=by rw [List.getElem?_map,List.getElem?_range hi];rfl
 have hkf:fr / 64 < f.length:=by omega
 obtain ⟨y,hy⟩:∃ y,f[fr / 64]? = some y:=⟨_,List.getElem?_eq_getElem hkf⟩
 have hgy:(f.map amc)[fr / 64]? = some [u64 y]:=by rw [List.getElem?_map,hy];rfl
 have hst:(f.map amc).set (fr / 64) [u64 x] = (f.set (fr / 64) x).map amc:=by rw [List.map_set];rfl
 have hlt:=aac g1
 have hput:=ht.put (k:=fr / 64) (x:=x) hf
 have hal:=aac hout
 suffices hs:∃ r:AV × aa4,(∃ H1,r = (.tuple [],H1) ∧ H1.length = H.length ∧ Tbl H1 a b q ids w (fo.set i (f.set (fr / 64) x)) fr) ∧ sem L.env Mf 20 [.int .i64 i,u64 x,.ptr a 0 0,.ptr q 0 0] H = some r by
  obtain ⟨r,⟨H1,rfl,h1,h2⟩,h3⟩:=hs
  exact ⟨H1,h3,h1,h2⟩
 (refine svE Tryz.f20 ?_;simp only [Tryz.f20,gS])
 (repeat first|simp only [ww]|((with_reducible first|apply xs2|apply xI);(·simp +decide only [go_sem,hout,htop,hfrm,hw,hget,hi,hk,g1,hgy,hst,hlt,List.length_range];rfl);with_reducible first|apply xT|apply xF|(·kernel_rfl)))
 refine afb (vs:=[]) (r:=(.tuple [],((H.set (ids i) (some (.row 1 ((f.set (fr / 64) x).map amc)))).take H.length).map (Option.map (aat (ab9 H.length))))) (by simp +decide only [go_sem]) (by rw [show L.env.thaw 20 = false from rfl,agf];rfl) ⟨_,rfl,by simp,?_⟩
 have hl2:(H.set (ids i) (some (.row 1 ((f.set (fr / 64) x).map amc)))).length = H.length:=List.length_set
 have htk:(H.set (ids i) (some (.row 1 ((f.set (fr / 64) x).map amc)))).take H.length = H.set (ids i) (some (.row 1 ((f.set (fr / 64) x).map amc))):=List.take_of_length_le (by omega)
 rw [htk]
 generalize H.set (ids i) (some (.row 1 ((f.set (fr / 64) x).map amc))) = Hs at hput hl2
 have hpb:∀ c,c < H.length → ab9 H.length c = some c:=fun c hc=>by rw [afr];simp [hc]
 have hbl:∀ c ∈ Tbl.blocks a b q ids (fo.set i (f.set (fr / 64) x)).length,c < H.length:=by
  intro c hc
  rw [← hl2]
  rw [Tbl.mem_blocks] at hc
  rcases hc with rfl|rfl|rfl|⟨j,hj,rfl⟩
  ·exact aac hput.out
  ·exact aac hput.top
  ·exact aac hput.frm
  ·obtain ⟨f',hf'⟩:∃ f',(fo.set i (f.set (fr / 64) x))[j]? = some f':=⟨_,List.getElem?_eq_getElem hj⟩
   exact aac (hput.sub j f' hf').1
 refine hput.stay (R:=(·∈ Tbl.blocks a b q ids (fo.set i (f.set (fr / 64) x)).length)) (π:=ab9 H.length) ⟨?_,hput.closed,fun c hc=>⟨c,hpb c (hbl c hc)⟩,?_⟩ (Tbl.mem_blocks.2 (.inl rfl)) (Tbl.mem_blocks.2 (.inr (.inr (.inl rfl)))) (fun c hc=>hpb c (hbl c hc))
 ·intro x y z hx hy
  rw [afr] at hx hy
  cases h1:decide (x < H.length)<;>cases h2:decide (y < H.length)<;>simp [h1,h2] at hx hy
  omega
 ·intro c d hc hd
  rw [hpb c (hbl c hc)] at hd
  cases hd
  unfold aa2
  rw [List.getElem?_map]
  cases Hs[c]? with
  | none=>rfl
  | some o=>rfl
theorem asp {d:Bool} {H:aa4} {m a b q:Nat} {ids:Nat → Nat} {w:Nat} {fo:List (List (BitVec 64))} {fr:Nat} (h:TSt H m a b q ids w fo fr) (hm:m ≤ H.length) (hn:fo.length ≤ 1000) (i:Nat) (f:List (BitVec 64)) (hf:fo[i]? = some f) (hk:fr / 64 < w) (hfr:fr < 1000000) (x:BitVec 64) :
 ∃ H' σ,aaa L.env d (sem L.env Mf) (.func (.func 20) [] [.ptr a 0 0,.ptr q 0 0]) [.int .i64 i,u64 x] H = some (.tuple [],H',σ) ∧ TSt H' m a b q ids w (fo.set i (f.set (fr / 64) x)) fr ∧ H'.length = H.length ∧ ∀ c,c ∉ Tbl.blocks a b q ids fo.length → aa2 H' c = aa2 H c:=by
 refine bdp (by kernel_rfl) (by kernel_rfl) h hm hn rfl List.length_set ?_
 intro H0 a' b' q' ids' ht hall
 exact bk1 H0 a' b' q' ids' w fo fr ht hall i f hf hk hfr x
set_option maxHeartbeats 200000000
open Go.Proofs Go.Ax Go.Pc
set_option maxRecDepth 100000
def akn (c:Cir) (ord:List Nat) (f:Flt) (vi vs:List W):BitVec 64:=
 asb ((ab5 c ord).seen abq hk0 ((ab5 c ord).nets abq hk0 vi vs)) ((ab5 c ord).seen abq (hkF f (ab0 abq ((ab5 c ord).nets abq hk0 vi vs) f)) ((ab5 c ord).nets abq (hkF f (ab0 abq ((ab5 c ord).nets abq hk0 vi vs) f)) vi vs)) 0
def awa (c:Cir) (ps:List Pat):List W:=ae9 (ps.map Pat.ins) (kinds c.nodes 0).length
def aw9 (c:Cir) (ps:List Pat):List W:=ae9 (ps.map Pat.sts) (kinds c.nodes 14).length
/-- The lanes in which patterns detect a fault. -/
def ajf (c:Cir) (ord:List Nat) (f:Flt) (ps:List Pat):BitVec 64:=
 if ps.length < 64 then akn c ord f (awa c ps) (aw9 c ps) &&& (BitVec.ofInt 64 1 <<< ps.length - BitVec.ofInt 64 1) else akn c ord f (awa c ps) (aw9 c ps)
def amh (l:List Flt) (hit:Flt → BitVec 64) (k:Nat) (fo:List (List (BitVec 64))) (i:Nat):List (List (BitVec 64)):=fo.mapIdx fun j f=>if j < i then f.set k (hit (l.getD j ⟨0,0,0,0,0⟩)) else f
theorem ags (l:List Flt) (hit:Flt → BitVec 64) (k:Nat) (fo:List (List (BitVec 64))) (i:Nat):(amh l hit k fo i).length = fo.length:=by simp [amh]
theorem atq (l:List Flt) (hit:Flt → BitVec 64) (k:Nat) (fo:List (List (BitVec 64))):amh l hit k fo 0 = fo:=by
 unfold amh
 apply List.ext_getElem?
 intro j
 rw [List.getElem?_mapIdx]
 cases fo[j]?<;>simp
theorem axe {l:List Flt} {hit:Flt → BitVec 64} {k:Nat} {fo:List (List (BitVec 64))} {i:Nat} {r:List (BitVec 64)} (h:fo[i]? = some r):(amh l hit k fo i)[i]? = some r:=by
 unfold amh;rw [List.getElem?_mapIdx,h];simp
theorem atr {l:List Flt} {hit:Flt → BitVec 64} {k:Nat} {fo:List (List (BitVec 64))} {i:Nat} {f:Flt} {r:List (BitVec 64)} (hf:l[i]? = some f) (h:fo[i]? = some r):(amh l hit k fo i).set i (r.set k (hit f)) = amh l hit k fo (i + 1):=by
 apply List.ext_getElem?
 intro j
 rw [List.getElem?_set,ags]
 unfold amh
 rw [List.getElem?_mapIdx,List.getElem?_mapIdx]
 have hi:=(List.getElem?_eq_some_iff.1 h).1
 by_cases hij:i = j
 ·subst hij
  have hr:fo[i] = r:=(List.getElem?_eq_some_iff.1 h).2
  simp [hi,h,List.getD,hf,hr]
 ·by_cases h2:j < i
  ·simp [hij,h2,show j < i + 1 by omega]
  ·simp [hij,h2,show ¬ j < i + 1 by omega]
theorem TSt.grow {H:aa4} {a b q:Nat} {ids:Nat → Nat} {w:Nat} {fo:List (List (BitVec 64))} {fr:Int} {L:aa4} (h:TSt H H.length a b q ids w fo fr):TSt (H ++ L) H.length a b q ids w fo fr:=
 ⟨h.tbl.more,fun c hc=>by rw [ada (eq_true hc)];exact h.lowf c hc,h.bnd⟩
theorem ahs (vs:List (List Nat)) (n:Nat):(ae9 vs n).length = n:=by simp [ae9]
def ajz (a q:Nat):AV:=.func (.func 20) [] [.ptr a 0 0,.ptr q 0 0]
theorem exi {A P Q:Frm → aa4 → Prop} (h:∃ F1 H1,A F1 H1 ∧ P F1 H1) (hq:∀ F1 H1,P F1 H1 → Q F1 H1):∃ F1 H1,A F1 H1 ∧ Q F1 H1:=by
 obtain ⟨F1,H1,h1,h2⟩:=h;exact ⟨F1,H1,h1,hq _ _ h2⟩
theorem acp (l:List Flt):FlatR (l.map Flt.enc):=FlatR.map fun _=>rfl
theorem aiz (c:Cir) (ord:List Nat) (h:Hk W) (nets:List W):((ab5 c ord).seen abq h nets).length = c.outs.length + (kinds c.nodes 14).length:=by
 show (anc abq c.nodes h c.outs (kinds c.nodes 14) nets).length = _
 unfold anc;simp
theorem bte (c:Cir) (hc:c.wf) (ord:List Nat) (ho:∀ n ∈ ord,n < c.nodes.length) (hol:ord.length ≤ 1000) (rl:Rep) (rp:Rep) (l:List Flt) (ps:List Pat) (hf:∀ f ∈ l,FltOk c.nodes f) (hp:∀ p ∈ ps,PatOk c.nodes p) (hpl:ps.length ≤ 64)
 (H:aa4) (a b q:Nat) (ids:Nat → Nat) (w:Nat) (fo:List (List (BitVec 64))) (fr:Nat) (ht:TSt H H.length a b q ids w fo fr) (hfo:fo.length = l.length) (hll:l.length ≤ 1000) (hk:fr / 64 < w) (hfr:fr < 1000000) :
 ∃ H1,sem L.env Mf 19 [.agg (adp c ord net0V pin0V),sl rl (l.map Flt.enc),sl rp (ps.map Pat.enc),ajz a q] H = some (.tuple [],H1) ∧ H1.length = H.length ∧ Tbl H1 a b q ids w (amh l (fun f=>ajf c ord f ps) (fr / 64) fo l.length) fr:=by
 have hnl:=hc.len
 have hki:=acj c.nodes 0
 have hk14:=acj c.nodes 14
 have hpi:=fun H=>ahr (d:=false) H rp ps bav Pat.ic Pat.ins bpd (kinds c.nodes 0).length (by omega) hpl (fun p hm=>⟨(hp p hm).ins,(hp p hm).inv⟩)
 have hps:=fun H=>ahr (d:=false) H rp ps bau Pat.sc Pat.sts bpc (kinds c.nodes 14).length (by omega) hpl (fun p hm=>⟨(hp p hm).sts,(hp p hm).stv⟩)
 have hvl:(awa c ps).length = (kinds c.nodes 0).length:=ahs _ _
 have hsl:(aw9 c ps).length = (kinds c.nodes 14).length:=ahs _ _
 have hhw:∀ f:Flt,ajf c ord f ps = if ps.length < 64 then akn c ord f (awa c ps) (aw9 c ps) &&& (BitVec.ofInt 64 1 <<< ps.length - BitVec.ofInt 64 1) else akn c ord f (awa c ps) (aw9 c ps):=fun _=>rfl
 rw [show ae9 (ps.map Pat.ins) (kinds c.nodes 0).length = awa c ps from rfl] at hpi
 rw [show ae9 (ps.map Pat.sts) (kinds c.nodes 14).length = aw9 c ps from rfl] at hps
 generalize awa c ps = vi at hpi hvl hhw
 generalize aw9 c ps = vs at hps hsl hhw
 have hr0:=fun d H=>amm (d:=d) H c hc ord ho hol net0V pin0V hk0 (bl8 _) (bkw _) (some (some (kinds c.nodes 0).length)) (some (some (kinds c.nodes 14).length)) vi vs hvl hsl
 have hgl:((ab5 c ord).nets abq hk0 vi vs).length = c.nodes.length:=aio _ _ _ _ _
 have hwh:=fun H f hfm=>aps (d:=true) H c ord f hfm (some (some c.nodes.length)) ((ab5 c ord).nets abq hk0 vi vs) hgl
 have hrf:=fun H (f:Flt) (hfm:FltOk c.nodes f)=>amm (d:=true) H c hc ord ho hol _ _ (hkF f (ab0 abq ((ab5 c ord).nets abq hk0 vi vs) f)) (bjs _ f hfm.model _) (bjo _ f _) (some (some (kinds c.nodes 0).length)) (some (some (kinds c.nodes 14).length)) vi vs hvl hsl
 have hct:=fun H (f:Flt)=>akv (d:=false) H none none ((ab5 c ord).seen abq hk0 ((ab5 c ord).nets abq hk0 vi vs)) ((ab5 c ord).seen abq (hkF f (ab0 abq ((ab5 c ord).nets abq hk0 vi vs) f)) ((ab5 c ord).nets abq (hkF f (ab0 abq ((ab5 c ord).nets abq hk0 vi vs) f)) vi vs)) (by rw [aiz,aiz];omega) (by rw [aiz];have:=hc.outl;omega)
 have hraw:∀ f:Flt,asb ((ab5 c ord).seen abq hk0 ((ab5 c ord).nets abq hk0 vi vs)) ((ab5 c ord).seen abq (hkF f (ab0 abq ((ab5 c ord).nets abq hk0 vi vs) f)) ((ab5 c ord).nets abq (hkF f (ab0 abq ((ab5 c ord).nets abq hk0 vi vs) f)) vi vs)) 0 = akn c ord f vi vs:=fun _=>rfl
 simp only [hraw] at hct
 generalize hG:(ab5 c ord).nets abq hk0 vi vs = G at hr0 hgl hwh hrf hct hraw
 generalize hS:(ab5 c ord).seen abq hk0 G = SG at hr0 hct
 obtain ⟨r0,e3⟩:=ac3 (kinds c.nodes 0)
 obtain ⟨r1,e4⟩:=ac3 (kinds c.nodes 14)
 have hxfl:aab (adp c ord net0V pin0V) = []:=ago _ _ _ _ rfl rfl
 have hxR:FlatR [adp c ord net0V pin0V]:=FlatR.cons hxfl FlatR.nil
 have hEe:adp c ord net0V pin0V = [sl c.nc (c.nodes.map Nd.enc),sl c.mc (c.names.map abv),.nilslice,sl c.oc (c.outs.map aaj),.islice (ord.map aaj) (some c.nodes.length),sl r0 ((kinds c.nodes 0).map aaj),sl r1 ((kinds c.nodes 14).map aaj),net0V,pin0V]:=by unfold adp;rw [e3,e4]
 simp only [ahm] at hr0 hwh hrf
 generalize hm:H.length = m at ht
 suffices hs:∃ r:AV × aa4,(∃ H1,r = (.tuple [],H1) ∧ H1.length = m ∧ Tbl H1 a b q ids w (amh l (fun f=>ajf c ord f ps) (fr / 64) fo l.length) fr) ∧ sem L.env Mf 19 [.agg (adp c ord net0V pin0V),sl rl (l.map Flt.enc),sl rp (ps.map Pat.enc),ajz a q] H = some r by
  obtain ⟨r,⟨H1,rfl,h1,h2⟩,h3⟩:=hs
  exact ⟨H1,h3,h1,h2⟩
 have hnet:refs net0V = []:=rfl
 have hpin:refs pin0V = []:=rfl
 unfold bav at hpi
 unfold bau at hps
 unfold ajz
 have hfr0:∀ i,aba [1,2,3,4,8,9,10,11,34,35] [(1,sl rl (l.map Flt.enc)),(2,sl rp (ps.map Pat.enc)),(3,ajz a q),(4,AV.ptr m 0 0),(8,.islice (vi.map W.enc) (some (kinds c.nodes 0).length)),(9,.islice (vs.map W.enc) (some (kinds c.nodes 14).length)),(10,.islice (G.map W.enc) (some c.nodes.length)),(11,sl none (SG.map W.enc)),(34,.int .i64 l.length),(35,.int .i64 (i:Nat))] = [(1,sl rl (l.map Flt.enc)),(2,sl rp (ps.map Pat.enc)),(3,ajz a q),(4,AV.ptr m 0 0),(8,.islice (vi.map W.enc) (some (kinds c.nodes 0).length)),(9,.islice (vs.map W.enc) (some (kinds c.nodes 14).length)),(10,.islice (G.map W.enc) (some c.nodes.length)),(11,sl none (SG.map W.enc)),(34,.int .i64 l.length),(35,.int .i64 (i:Nat))]:=fun i=>by simp +decide only [go_sem,aba]
 have hhead:∀ (F:Frm) (H2:aa4) (i:Nat),aba [1,2,3,4,8,9,10,11,34,35] F = [(1,sl rl (l.map Flt.enc)),(2,sl rp (ps.map Pat.enc)),(3,ajz a q),(4,AV.ptr m 0 0),(8,.islice (vi.map W.enc) (some (kinds c.nodes 0).length)),(9,.islice (vs.map W.enc) (some (kinds c.nodes 14).length)),(10,.islice (G.map W.enc) (some c.nodes.length)),(11,sl none (SG.map W.enc)),(34,.int .i64 l.length),(35,.int .i64 (i:Nat))] →
  TSt H2 m a b q ids w (amh l (fun f=>ajf c ord f ps) (fr / 64) fo i) fr → aa2 H2 m = some (.row 9 [adp c ord net0V pin0V]) →
  ∃ F1 H1,gcD m [1,2,3,4,8,9,10,11,34,35] F H2 = some (F1,H1) ∧ F1 = [(1,sl rl (l.map Flt.enc)),(2,sl rp (ps.map Pat.enc)),(3,ajz a q),(4,AV.ptr m 0 0),(8,.islice (vi.map W.enc) (some (kinds c.nodes 0).length)),(9,.islice (vs.map W.enc) (some (kinds c.nodes 14).length)),(10,.islice (G.map W.enc) (some c.nodes.length)),(11,sl none (SG.map W.enc)),(34,.int .i64 l.length),(35,.int .i64 (i:Nat))] ∧ TSt H1 m a b q ids w (amh l (fun f=>ajf c ord f ps) (fr / 64) fo i) fr ∧ aa2 H1 m = some (.row 9 [adp c ord net0V pin0V]) ∧ H1.length = m + 1:=by
  intro F H2 i hkF ht2 hx2
  have hrefs:aab ((aba [1,2,3,4,8,9,10,11,34,35] F).map (·.2)) = [a,q,m]:=by rw [hkF];simp only [ajz,List.map_cons,List.map_nil,aa7,abf,ac2,ak9,agn,ad3,aho,ahp,List.append_nil,List.nil_append,List.cons_append]
  have ha:=ht2.bnd a (Tbl.mem_blocks.2 (.inl rfl))
  have hq:=ht2.bnd q (Tbl.mem_blocks.2 (.inr (.inr (.inl rfl))))
  obtain ⟨H1,k1,k2,k3,k4,k5⟩:=ht2.head (keep:=[1,2,3,4,8,9,10,11,34,35]) (F:=F) hx2 (aad hxR) (FlatO.row hxR) (by rw [ags];omega) (by rw [hrefs];intro x hx;simp only [List.mem_cons,List.not_mem_nil,or_false] at hx;omega) (by rw [hrefs];simp) (by rw [hrefs];simp) (by rw [hrefs];simp) (by rw [hrefs];simp) (by
   rw [hrefs];intro x hx
   simp only [List.mem_cons,List.not_mem_nil,or_false] at hx
   rcases hx with rfl|rfl|rfl;exact .inr (.inl (Tbl.mem_blocks.2 (.inl rfl)));exact .inr (.inl (Tbl.mem_blocks.2 (.inr (.inr (.inl rfl)))));exact .inl rfl)
  exact ⟨_,H1,k1,hkF,k2,k3,k4⟩
 unfold ajz at hhead
 (refine svE Tryz.f19 ?_;simp only [Tryz.f19,gS])
 rw [hEe] at hr0 hwh ⊢
 rw [hm]
 have hHm:∀ L:aa4,aa2 (H ++ L) m = aa2 L 0:=by intro L;rw [← hm];exact ad0
 (repeat first|simp only [ww]|(apply xa;simp +decide only [go_sem,hHm,hpi,hps,hr0,hm,aga];rfl;kernel_rfl))
 refine acx kp19_0 (fun n F H1=>∃ i,n = l.length - i ∧ i ≤ l.length ∧ F = [(1,sl rl (l.map Flt.enc)),(2,sl rp (ps.map Pat.enc)),(3,ajz a q),(4,AV.ptr m 0 0),(8,.islice (vi.map W.enc) (some (kinds c.nodes 0).length)),(9,.islice (vs.map W.enc) (some (kinds c.nodes 14).length)),(10,.islice (G.map W.enc) (some c.nodes.length)),(11,sl none (SG.map W.enc)),(34,.int .i64 l.length),(35,.int .i64 (i:Nat))] ∧ TSt H1 m a b q ids w (amh l (fun f=>ajf c ord f ps) (fr / 64) fo i) fr ∧ aa2 H1 m = some (.row 9 [adp c ord net0V pin0V]) ∧ H1.length = m + 1) (l.length - 0) ?_ ?_
 ·have htg:=TSt.grow (L:=[some (AObj.row 9 [adp c ord net0V pin0V])]) (hm.symm ▸ ht)
  rw [hm] at htg
  rw [hEe] at htg
  refine exi (hhead _ _ 0 (by simp +decide only [go_sem,aba]<;>rfl) (by rw [atq];exact htg) (by rw [hHm,hEe];rfl)) ?_
  rintro F3 H3 ⟨k2,k3,k4,k5⟩
  exact ⟨0,rfl,Nat.zero_le _,k2,k3,k4,k5⟩
 ·rintro n F H1 ⟨i,rfl,hi,rfl,ht1,hx1,hlen1⟩
  have hx1':=hx1
  rw [hEe] at hx1'
  by_cases hlt:i < l.length
  ·obtain ⟨f,hfi⟩:∃ f,l[i]? = some f:=⟨_,List.getElem?_eq_getElem hlt⟩
   have hfm:=hf f (List.mem_of_getElem? hfi)
   obtain ⟨r,hr⟩:∃ r,fo[i]? = some r:=⟨_,List.getElem?_eq_getElem (by omega)⟩
   have hgt:=axe (l:=l) (hit:=fun f=>ajf c ord f ps) (k:=fr / 64) hr
   have hsc:=atr (hit:=fun f=>ajf c ord f ps) (k:=fr / 64) hfi hr
   obtain ⟨H2,σ,hcb,ht2,hl2,hout2⟩:=asp (d:=false) ht1 (by omega) (by rw [ags];omega) i r hgt hk hfr (ajf c ord f ps)
   rw [hsc] at ht2
   have hmn:m ∉ Tbl.blocks a b q ids (amh l (fun f=>ajf c ord f ps) (fr / 64) fo i).length:=by
    rw [ags];intro hm2;have:=ht.bnd m hm2;omega
   have hx2:=(hout2 m hmn).trans hx1
   have c1:(i:Int) < l.length:=by omega
   have hwi:=wI1 (n:=i) (by omega)
   have hwf:=fun H=>hwh H f hfm
   have hrff:=fun H=>hrf H f hfm
   have hctf:=fun H=>hct H f
   simp only [Flt.enc] at hwf
   unfold ajz
   have hml:m < H1.length:=by omega
   have hhwf:=hhw f
   by_cases h64:ps.length < 64
   ·have c2:(ps.length:Int) < 64:=by omega
    rw [if_pos h64] at hhwf
    rw [hhwf] at hcb
    have c0:¬ (ps.length:Int) < 0:=by omega
    (repeat first|simp only [ww]|(apply xa;simp +decide only [go_sem,c0,c1,hlt,hfi,hwi,hx1',hml,hwf,hrff,hctf,c2,hcb];rfl;kernel_rfl))
    refine ab8 (l.length - (i + 1)) (by omega) ?_
    refine exi (hhead _ _ (i + 1) (by simp +decide only [go_sem,aba]<;>rfl) ht2 hx2) ?_
    rintro F3 H3 ⟨k2,k3,k4,k5⟩
    exact ⟨i + 1,rfl,hlt,k2,k3,k4,k5⟩
   ·have c2:¬ (ps.length:Int) < 64:=by omega
    rw [if_neg h64] at hhwf
    rw [hhwf] at hcb
    (repeat first|simp only [ww]|(apply xa;simp +decide only [go_sem,c1,hlt,hfi,hwi,hx1',hml,hwf,hrff,hctf,c2,hcb];rfl;kernel_rfl))
    refine ab8 (l.length - (i + 1)) (by omega) ?_
    refine exi (hhead _ _ (i + 1) (by simp +decide only [go_sem,aba]<;>rfl) ht2 hx2) ?_
    rintro F3 H3 ⟨k2,k3,k4,k5⟩
    exact ⟨i + 1,rfl,hlt,k2,k3,k4,k5⟩
  ·obtain rfl:i = l.length:=by omega
   have c1:¬ (l.length:Int) < l.length:=by omega
   (repeat first|simp only [ww]|(apply xa;simp +decide only [go_sem,c1];rfl;kernel_rfl))
   generalize hfoT:amh l (fun f=>ajf c ord f ps) (fr / 64) fo l.length = FT at ht1 ⊢
   have hid:∀ c o,c < m → aa2 H1 c = some o → (∀ d ∈ aas (some o),d < m) → aa2 ((H1.take m).map (Option.map (aat (ab9 m)))) c = some o:=by
    intro c o hcm hco hd
    have hb:∀ d,d < m → ab9 m d = some d:=fun d hd=>by rw [afr];simp [hd]
    unfold aa2 at hco ⊢
    rw [List.getElem?_map,List.getElem?_take,if_pos hcm]
    cases hcc:H1[c]? with
    | none=>rw [hcc] at hco;cases hco
    | some o'=>
     rw [hcc] at hco
     simp only [Option.join_some] at hco
     subst hco
     simp only [Option.map_some,Option.join_some]
     rw [aj1 hb o hd]
   have hbl:∀ c o,c ∈ Tbl.blocks a b q ids FT.length → aa2 H1 c = some o → aa2 ((H1.take m).map (Option.map (aat (ab9 m)))) c = some o:=by
    intro c o hcb hco
    refine hid c o (ht1.bnd c hcb) hco fun d hd=>ht1.bnd d (ht1.tbl.closed c hcb d (by rw [hco];exact hd))
   refine afb (vs:=[]) (r:=(.tuple [],(H1.take m).map (Option.map (aat (ab9 m))))) (by simp +decide only [go_sem]) (by rw [show L.env.thaw 19 = false from rfl,agf];rfl) ⟨_,rfl,by simp;omega,?_⟩
   ·refine ht1.tbl.same fun c hc=>?_
    have hcb:=Tbl.mem_blocks.2 hc
    cases hco:aa2 H1 c with
    | some o=>exact hbl c o hcb hco
    | none=>
     exfalso
     rcases hc with rfl|rfl|rfl|⟨j,hj,rfl⟩
     ·rw [ht1.tbl.out] at hco;cases hco
     ·rw [ht1.tbl.top] at hco;cases hco
     ·rw [ht1.tbl.frm] at hco;cases hco
     ·obtain ⟨f',hf'⟩:∃ f',FT[j]? = some f':=⟨_,List.getElem?_eq_getElem hj⟩
      rw [(ht1.tbl.sub j f' hf').1] at hco;cases hco
theorem btd (c:Cir) (hc:c.wf) (ord:List Nat) (ho:∀ n ∈ ord,n < c.nodes.length) (hol:ord.length ≤ 1000) (lb:Nat) (rp:Rep) (l:List Flt) (ps:List Pat) (hf:∀ f ∈ l,FltOk c.nodes f) (hp:∀ p ∈ ps,PatOk c.nodes p) (hpl:ps.length ≤ 64)
 (H:aa4) (a b q:Nat) (ids:Nat → Nat) (w:Nat) (fo:List (List (BitVec 64))) (fr:Nat) (ht:TSt H H.length a b q ids w fo fr) (hfo:fo.length = l.length) (hll:l.length ≤ 1000) (hk:fr / 64 < w) (hfr:fr < 1000000) (hlb:aa2 H lb = some (.row 5 (l.map Flt.enc))) (hlbn:lb ∉ Tbl.blocks a b q ids fo.length) (hlbm:lb < H.length) :
 ∃ H1,sem L.env Mf 19 [.agg (adp c ord net0V pin0V),.slice lb 0 l.length (some l.length),sl rp (ps.map Pat.enc),ajz a q] H = some (.tuple [],H1) ∧ H1.length = H.length ∧ Tbl H1 a b q ids w (amh l (fun f=>ajf c ord f ps) (fr / 64) fo l.length) fr ∧ aa2 H1 lb = some (.row 5 (l.map Flt.enc)):=by
 have hnl:=hc.len
 have hki:=acj c.nodes 0
 have hk14:=acj c.nodes 14
 have hpi:=fun H=>ahr (d:=false) H rp ps bav Pat.ic Pat.ins bpd (kinds c.nodes 0).length (by omega) hpl (fun p hm=>⟨(hp p hm).ins,(hp p hm).inv⟩)
 have hps:=fun H=>ahr (d:=false) H rp ps bau Pat.sc Pat.sts bpc (kinds c.nodes 14).length (by omega) hpl (fun p hm=>⟨(hp p hm).sts,(hp p hm).stv⟩)
 have hvl:(awa c ps).length = (kinds c.nodes 0).length:=ahs _ _
 have hsl:(aw9 c ps).length = (kinds c.nodes 14).length:=ahs _ _
 have hhw:∀ f:Flt,ajf c ord f ps = if ps.length < 64 then akn c ord f (awa c ps) (aw9 c ps) &&& (BitVec.ofInt 64 1 <<< ps.length - BitVec.ofInt 64 1) else akn c ord f (awa c ps) (aw9 c ps):=fun _=>rfl
 rw [show ae9 (ps.map Pat.ins) (kinds c.nodes 0).length = awa c ps from rfl] at hpi
 rw [show ae9 (ps.map Pat.sts) (kinds c.nodes 14).length = aw9 c ps from rfl] at hps
 generalize awa c ps = vi at hpi hvl hhw
 generalize aw9 c ps = vs at hps hsl hhw
 have hr0:=fun d H=>amm (d:=d) H c hc ord ho hol net0V pin0V hk0 (bl8 _) (bkw _) (some (some (kinds c.nodes 0).length)) (some (some (kinds c.nodes 14).length)) vi vs hvl hsl
 have hgl:((ab5 c ord).nets abq hk0 vi vs).length = c.nodes.length:=aio _ _ _ _ _
 have hwh:=fun H f hfm=>aps (d:=true) H c ord f hfm (some (some c.nodes.length)) ((ab5 c ord).nets abq hk0 vi vs) hgl
 have hrf:=fun H (f:Flt) (hfm:FltOk c.nodes f)=>amm (d:=true) H c hc ord ho hol _ _ (hkF f (ab0 abq ((ab5 c ord).nets abq hk0 vi vs) f)) (bjs _ f hfm.model _) (bjo _ f _) (some (some (kinds c.nodes 0).length)) (some (some (kinds c.nodes 14).length)) vi vs hvl hsl
 have hct:=fun H (f:Flt)=>akv (d:=false) H none none ((ab5 c ord).seen abq hk0 ((ab5 c ord).nets abq hk0 vi vs)) ((ab5 c ord).seen abq (hkF f (ab0 abq ((ab5 c ord).nets abq hk0 vi vs) f)) ((ab5 c ord).nets abq (hkF f (ab0 abq ((ab5 c ord).nets abq hk0 vi vs) f)) vi vs)) (by rw [aiz,aiz];omega) (by rw [aiz];have:=hc.outl;omega)
 have hraw:∀ f:Flt,asb ((ab5 c ord).seen abq hk0 ((ab5 c ord).nets abq hk0 vi vs)) ((ab5 c ord).seen abq (hkF f (ab0 abq ((ab5 c ord).nets abq hk0 vi vs) f)) ((ab5 c ord).nets abq (hkF f (ab0 abq ((ab5 c ord).nets abq hk0 vi vs) f)) vi vs)) 0 = akn c ord f vi vs:=fun _=>rfl
 simp only [hraw] at hct
 generalize hG:(ab5 c ord).nets abq hk0 vi vs = G at hr0 hgl hwh hrf hct hraw
 generalize hS:(ab5 c ord).seen abq hk0 G = SG at hr0 hct
 obtain ⟨r0,e3⟩:=ac3 (kinds c.nodes 0)
 obtain ⟨r1,e4⟩:=ac3 (kinds c.nodes 14)
 have hxfl:aab (adp c ord net0V pin0V) = []:=ago _ _ _ _ rfl rfl
 have hxR:FlatR [adp c ord net0V pin0V]:=FlatR.cons hxfl FlatR.nil
 have hEe:adp c ord net0V pin0V = [sl c.nc (c.nodes.map Nd.enc),sl c.mc (c.names.map abv),.nilslice,sl c.oc (c.outs.map aaj),.islice (ord.map aaj) (some c.nodes.length),sl r0 ((kinds c.nodes 0).map aaj),sl r1 ((kinds c.nodes 14).map aaj),net0V,pin0V]:=by unfold adp;rw [e3,e4]
 simp only [ahm] at hr0 hwh hrf
 generalize hm:H.length = m at ht
 suffices hs:∃ r:AV × aa4,(∃ H1,r = (.tuple [],H1) ∧ H1.length = m ∧ Tbl H1 a b q ids w (amh l (fun f=>ajf c ord f ps) (fr / 64) fo l.length) fr ∧ aa2 H1 lb = some (.row 5 (l.map Flt.enc))) ∧ sem L.env Mf 19 [.agg (adp c ord net0V pin0V),.slice lb 0 l.length (some l.length),sl rp (ps.map Pat.enc),ajz a q] H = some r by
  obtain ⟨r,⟨H1,rfl,h1,h2⟩,h3⟩:=hs
  exact ⟨H1,h3,h1,h2⟩
 have hnet:refs net0V = []:=rfl
 have hpin:refs pin0V = []:=rfl
 unfold bav at hpi
 unfold bau at hps
 unfold ajz
 have hfr0:∀ i,aba [1,2,3,4,8,9,10,11,34,35] [(1,.slice lb 0 l.length (some l.length)),(2,sl rp (ps.map Pat.enc)),(3,ajz a q),(4,AV.ptr m 0 0),(8,.islice (vi.map W.enc) (some (kinds c.nodes 0).length)),(9,.islice (vs.map W.enc) (some (kinds c.nodes 14).length)),(10,.islice (G.map W.enc) (some c.nodes.length)),(11,sl none (SG.map W.enc)),(34,.int .i64 l.length),(35,.int .i64 (i:Nat))] = [(1,.slice lb 0 l.length (some l.length)),(2,sl rp (ps.map Pat.enc)),(3,ajz a q),(4,AV.ptr m 0 0),(8,.islice (vi.map W.enc) (some (kinds c.nodes 0).length)),(9,.islice (vs.map W.enc) (some (kinds c.nodes 14).length)),(10,.islice (G.map W.enc) (some c.nodes.length)),(11,sl none (SG.map W.enc)),(34,.int .i64 l.length),(35,.int .i64 (i:Nat))]:=fun i=>by simp +decide only [go_sem,aba]
 have hhead:∀ (F:Frm) (H2:aa4) (i:Nat),aba [1,2,3,4,8,9,10,11,34,35] F = [(1,.slice lb 0 l.length (some l.length)),(2,sl rp (ps.map Pat.enc)),(3,ajz a q),(4,AV.ptr m 0 0),(8,.islice (vi.map W.enc) (some (kinds c.nodes 0).length)),(9,.islice (vs.map W.enc) (some (kinds c.nodes 14).length)),(10,.islice (G.map W.enc) (some c.nodes.length)),(11,sl none (SG.map W.enc)),(34,.int .i64 l.length),(35,.int .i64 (i:Nat))] →
  TSt H2 m a b q ids w (amh l (fun f=>ajf c ord f ps) (fr / 64) fo i) fr → aa2 H2 m = some (.row 9 [adp c ord net0V pin0V]) → aa2 H2 lb = some (.row 5 (l.map Flt.enc)) → lb < m →
  ∃ F1 H1,gcD m [1,2,3,4,8,9,10,11,34,35] F H2 = some (F1,H1) ∧ F1 = [(1,.slice lb 0 l.length (some l.length)),(2,sl rp (ps.map Pat.enc)),(3,ajz a q),(4,AV.ptr m 0 0),(8,.islice (vi.map W.enc) (some (kinds c.nodes 0).length)),(9,.islice (vs.map W.enc) (some (kinds c.nodes 14).length)),(10,.islice (G.map W.enc) (some c.nodes.length)),(11,sl none (SG.map W.enc)),(34,.int .i64 l.length),(35,.int .i64 (i:Nat))] ∧ TSt H1 m a b q ids w (amh l (fun f=>ajf c ord f ps) (fr / 64) fo i) fr ∧ aa2 H1 m = some (.row 9 [adp c ord net0V pin0V]) ∧ H1.length = m + 1 ∧ aa2 H1 lb = some (.row 5 (l.map Flt.enc)):=by
  intro F H2 i hkF ht2 hx2 hl2 hl3
  have hrefs:aab ((aba [1,2,3,4,8,9,10,11,34,35] F).map (·.2)) = [lb,a,q,m]:=by rw [hkF];simp only [ajz,List.map_cons,List.map_nil,aa7,abf,ac2,ak9,agn,ad3,aho,ahp,List.append_nil,List.nil_append,List.cons_append]
  have ha:=ht2.bnd a (Tbl.mem_blocks.2 (.inl rfl))
  have hq:=ht2.bnd q (Tbl.mem_blocks.2 (.inr (.inr (.inl rfl))))
  obtain ⟨H1,k1,k2,k3,k4,k5⟩:=ht2.head (keep:=[1,2,3,4,8,9,10,11,34,35]) (F:=F) hx2 (aad hxR) (FlatO.row hxR) (by rw [ags];omega) (by rw [hrefs];intro x hx;simp only [List.mem_cons,List.not_mem_nil,or_false] at hx;omega) (by rw [hrefs];simp) (by rw [hrefs];simp) (by rw [hrefs];simp) (by rw [hrefs];simp) (by
   rw [hrefs];intro x hx
   simp only [List.mem_cons,List.not_mem_nil,or_false] at hx
   rcases hx with rfl|rfl|rfl|rfl;exact .inr (.inr (by rw [hl2];exact aad (acp l)));exact .inr (.inl (Tbl.mem_blocks.2 (.inl rfl)));exact .inr (.inl (Tbl.mem_blocks.2 (.inr (.inr (.inl rfl)))));exact .inl rfl)
  exact ⟨_,H1,k1,hkF,k2,k3,k4,k5 lb _ hl3 hl2 (FlatO.row (acp l))⟩
 unfold ajz at hhead
 (refine svE Tryz.f19 ?_;simp only [Tryz.f19,gS])
 rw [hEe] at hr0 hwh ⊢
 rw [hm]
 have hHm:∀ L:aa4,aa2 (H ++ L) m = aa2 L 0:=by intro L;rw [← hm];exact ad0
 (repeat first|simp only [ww]|(apply xa;simp +decide only [go_sem,hHm,hpi,hps,hr0,hm,aga];rfl;kernel_rfl))
 refine acx kp19_0 (fun n F H1=>∃ i,n = l.length - i ∧ i ≤ l.length ∧ F = [(1,.slice lb 0 l.length (some l.length)),(2,sl rp (ps.map Pat.enc)),(3,ajz a q),(4,AV.ptr m 0 0),(8,.islice (vi.map W.enc) (some (kinds c.nodes 0).length)),(9,.islice (vs.map W.enc) (some (kinds c.nodes 14).length)),(10,.islice (G.map W.enc) (some c.nodes.length)),(11,sl none (SG.map W.enc)),(34,.int .i64 l.length),(35,.int .i64 (i:Nat))] ∧ TSt H1 m a b q ids w (amh l (fun f=>ajf c ord f ps) (fr / 64) fo i) fr ∧ aa2 H1 m = some (.row 9 [adp c ord net0V pin0V]) ∧ H1.length = m + 1 ∧ aa2 H1 lb = some (.row 5 (l.map Flt.enc))) (l.length - 0) ?_ ?_
 ·have htg:=TSt.grow (L:=[some (AObj.row 9 [adp c ord net0V pin0V])]) (hm.symm ▸ ht)
  rw [hm] at htg
  rw [hEe] at htg
  refine exi (hhead _ _ 0 (by simp +decide only [go_sem,aba]<;>rfl) (by rw [atq];exact htg) (by rw [hHm,hEe];rfl) (by rw [ada (eq_true (by omega))];exact hlb) (by omega)) ?_
  rintro F3 H3 ⟨k2,k3,k4,k5⟩
  exact ⟨0,rfl,Nat.zero_le _,k2,k3,k4,k5⟩
 ·rintro n F H1 ⟨i,rfl,hi,rfl,ht1,hx1,hlen1,hlb⟩
  have hx1':=hx1
  rw [hEe] at hx1'
  by_cases hlt:i < l.length
  ·obtain ⟨f,hfi⟩:∃ f,l[i]? = some f:=⟨_,List.getElem?_eq_getElem hlt⟩
   have hfm:=hf f (List.mem_of_getElem? hfi)
   obtain ⟨r,hr⟩:∃ r,fo[i]? = some r:=⟨_,List.getElem?_eq_getElem (by omega)⟩
   have hgt:=axe (l:=l) (hit:=fun f=>ajf c ord f ps) (k:=fr / 64) hr
   have hsc:=atr (hit:=fun f=>ajf c ord f ps) (k:=fr / 64) hfi hr
   obtain ⟨H2,σ,hcb,ht2,hl2,hout2⟩:=asp (d:=false) ht1 (by omega) (by rw [ags];omega) i r hgt hk hfr (ajf c ord f ps)
   rw [hsc] at ht2
   have hmn:m ∉ Tbl.blocks a b q ids (amh l (fun f=>ajf c ord f ps) (fr / 64) fo i).length:=by
    rw [ags];intro hm2;have:=ht.bnd m hm2;omega
   have hx2:=(hout2 m hmn).trans hx1
   have hlb2:=(hout2 lb (by rw [ags];exact hlbn)).trans hlb
   have c1:(i:Int) < l.length:=by omega
   have hwi:=wI1 (n:=i) (by omega)
   have hwf:=fun H=>hwh H f hfm
   have hrff:=fun H=>hrf H f hfm
   have hctf:=fun H=>hct H f
   simp only [Flt.enc] at hwf
   unfold ajz
   have hml:m < H1.length:=by omega
   have hhwf:=hhw f
   by_cases h64:ps.length < 64
   ·have c2:(ps.length:Int) < 64:=by omega
    rw [if_pos h64] at hhwf
    rw [hhwf] at hcb
    have c0:¬ (ps.length:Int) < 0:=by omega
    (repeat first|simp only [ww]|(apply xa;simp +decide only [go_sem,c0,c1,hlt,hfi,hwi,hx1',hml,hwf,hrff,hctf,c2,hcb,hlb];rfl;kernel_rfl))
    refine ab8 (l.length - (i + 1)) (by omega) ?_
    refine exi (hhead _ _ (i + 1) (by simp +decide only [go_sem,aba]<;>rfl) ht2 hx2 hlb2 (by omega)) ?_
    rintro F3 H3 ⟨k2,k3,k4,k5⟩
    exact ⟨i + 1,rfl,hlt,k2,k3,k4,k5⟩
   ·have c2:¬ (ps.length:Int) < 64:=by omega
    rw [if_neg h64] at hhwf
    rw [hhwf] at hcb
    (repeat first|simp only [ww]|(apply xa;simp +decide only [go_sem,c1,hlt,hfi,hwi,hx1',hml,hwf,hrff,hctf,c2,hcb,hlb];rfl;kernel_rfl))
    refine ab8 (l.length - (i + 1)) (by omega) ?_
    refine exi (hhead _ _ (i + 1) (by simp +decide only [go_sem,aba]<;>rfl) ht2 hx2 hlb2 (by omega)) ?_
    rintro F3 H3 ⟨k2,k3,k4,k5⟩
    exact ⟨i + 1,rfl,hlt,k2,k3,k4,k5⟩
  ·obtain rfl:i = l.length:=by omega
   have c1:¬ (l.length:Int) < l.length:=by omega
   (repeat first|simp only [ww]|(apply xa;simp +decide only [go_sem,c1];rfl;kernel_rfl))
   generalize hfoT:amh l (fun f=>ajf c ord f ps) (fr / 64) fo l.length = FT at ht1 ⊢
   have hid:∀ c o,c < m → aa2 H1 c = some o → (∀ d ∈ aas (some o),d < m) → aa2 ((H1.take m).map (Option.map (aat (ab9 m)))) c = some o:=by
    intro c o hcm hco hd
    have hb:∀ d,d < m → ab9 m d = some d:=fun d hd=>by rw [afr];simp [hd]
    unfold aa2 at hco ⊢
    rw [List.getElem?_map,List.getElem?_take,if_pos hcm]
    cases hcc:H1[c]? with
    | none=>rw [hcc] at hco;cases hco
    | some o'=>
     rw [hcc] at hco
     simp only [Option.join_some] at hco
     subst hco
     simp only [Option.map_some,Option.join_some]
     rw [aj1 hb o hd]
   have hbl:∀ c o,c ∈ Tbl.blocks a b q ids FT.length → aa2 H1 c = some o → aa2 ((H1.take m).map (Option.map (aat (ab9 m)))) c = some o:=by
    intro c o hcb hco
    refine hid c o (ht1.bnd c hcb) hco fun d hd=>ht1.bnd d (ht1.tbl.closed c hcb d (by rw [hco];exact hd))
   refine afb (vs:=[]) (r:=(.tuple [],(H1.take m).map (Option.map (aat (ab9 m))))) (by simp +decide only [go_sem]) (by rw [show L.env.thaw 19 = false from rfl,agf];rfl) ⟨_,rfl,by simp;omega,?_,hid lb _ (by omega) hlb (by intro d hd;rw [aad (acp l)] at hd;simp at hd)⟩
   ·refine ht1.tbl.same fun c hc=>?_
    have hcb:=Tbl.mem_blocks.2 hc
    cases hco:aa2 H1 c with
    | some o=>exact hbl c o hcb hco
    | none=>
     exfalso
     rcases hc with rfl|rfl|rfl|⟨j,hj,rfl⟩
     ·rw [ht1.tbl.out] at hco;cases hco
     ·rw [ht1.tbl.top] at hco;cases hco
     ·rw [ht1.tbl.frm] at hco;cases hco
     ·obtain ⟨f',hf'⟩:∃ f',FT[j]? = some f':=⟨_,List.getElem?_eq_getElem hj⟩
      rw [(ht1.tbl.sub j f' hf').1] at hco;cases hco
end Go.ZInst
