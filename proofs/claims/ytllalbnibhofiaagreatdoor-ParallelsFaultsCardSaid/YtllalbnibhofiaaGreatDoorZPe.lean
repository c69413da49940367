/- Part of a proof. No condition. -/
import Derived.Test.YtllalbnibhofiaaGreatDoorZPd
import Derived.Test.YtllalbnibhofiaaGreatDoorPcC
set_option linter.unusedSimpArgs false
set_option linter.unusedVariables false
namespace Go.ZInst
set_option maxHeartbeats 200000000
open Go.Proofs Go.Ax Go.Pc
set_option maxRecDepth 100000
theorem d56 (good:List W) (f:Flt) (j:Nat):d57 good f j = e4g good f j:=rfl
theorem d7l {fs:List Flt} {good:List W} {esN:List (Nat × List Nat)} {esP:List ((Nat × Nat) × List Nat)} (h:EachOk fs fs.length esN esP) (hfl:fs.length ≤ 64) {j:Nat} {f:Flt} (hj:fs[j]? = some f) :
 HkHom (a2j j) (b22 fs good esN esP) (hkF f (a2j j (a15 a2m good f))):=by
 have hjl:=(List.getElem?_eq_some_iff.1 hj).1
 have hD:fs.getD j fD = f:=by rw [List.getD_eq_getElem?_getD,hj];rfl
 have hv:∀ l w,(∀ k ∈ l,k < 64) → a2j j (b4y fs good l w) = if j ∈ l then a2j j (a15 a2m good f) else a2j j w:=by
  intro l w hl
  have:=b8z (j:=j) (by omega) (fun k=>d57 good (fs.getD k fD) k) l w hl
  rw [hD,d56,c5t (by omega)] at this
  exact this
 refine ⟨fun n w=>?_,fun n p w=>?_⟩
 ·show a2j j (b4y fs good (atE n esN) w) = if f.hitsNet n then a2j j (a15 a2m good f) else a2j j w
  rw [hv _ _ (fun k hk=>by rw [h.net n] at hk;have:=(List.mem_filter.1 hk).1;simp at this;omega),h.net n]
  have e:(j ∈ (List.range fs.length).filter fun k=>(fs.getD k fD).hitsNet n) = (f.hitsNet n = true):=by
   rw [List.mem_filter,hD];simp [hjl]
  simp only [e]
 ·show a2j j (b4y fs good (atE (n,p) esP) w) = if f.hitsPin n p then a2j j (a15 a2m good f) else a2j j w
  rw [hv _ _ (fun k hk=>by rw [h.pin (n,p)] at hk;have:=(List.mem_filter.1 hk).1;simp at this;omega),h.pin (n,p)]
  have e:(j ∈ (List.range fs.length).filter fun k=>(fs.getD k fD).hitsPin (n,p).1 (n,p).2) = (f.hitsPin n p = true):=by
   rw [List.mem_filter,hD];simp [hjl]
  simp only [e]
theorem b61 {j:Nat} (hj:j < 64) (l:List Nat):(l.map a1a).map (a2j j) = l.map a0i:=by
 rw [List.map_map];exact List.map_congr_left fun v _=>a79 hj v
theorem b19 (l:List Pat):FlatR (l.map Pat.enc):=FlatR.map fun p=>by simp only [Pat.enc,a08,a1z,a2i,List.append_nil]
def a6g (S:Sim) (l:List Flt) (p:Pat) (i:Nat):List (List AV):=(List.range l.length).map fun j=>[.bool (if j < i then S.det (l.getD j fD) p else false)]
theorem b0h (S:Sim) (l:List Flt) (p:Pat) (i:Nat):(a6g S l p i).length = l.length:=by simp [a6g]
theorem c4s (S:Sim) (l:List Flt) (p:Pat):a6g S l p 0 = List.replicate l.length [.bool false]:=by
 unfold a6g
 refine (List.map_congr_left (g:=fun _=>[AV.bool false]) (fun j _=>by rw [if_neg (Nat.not_lt_zero _)])).trans ?_
 rw [List.map_const',List.length_range]
theorem b49 {S:Sim} {l:List Flt} {p:Pat} {i j:Nat} (h:j < l.length):(a6g S l p i)[j]? = some [.bool (if j < i then S.det (l.getD j fD) p else false)]:=by
 unfold a6g;rw [List.getElem?_map,List.getElem?_range h];rfl
theorem c4t {S:Sim} {l:List Flt} {p:Pat} {i:Nat} {f:Flt} (h:l[i]? = some f):(a6g S l p i).set i [.bool (S.det f p)] = a6g S l p (i + 1):=by
 have hi:=(List.getElem?_eq_some_iff.1 h).1
 have hD:l.getD i fD = f:=by rw [List.getD_eq_getElem?_getD,h];rfl
 apply List.ext_getElem?
 intro j
 rw [List.getElem?_set,b0h]
 by_cases hj:j < l.length
 ·rw [b49 hj,b49 hj]
  by_cases hij:i = j
  ·subst hij;rw [if_pos rfl,if_pos hi,if_pos (by omega),hD]
  ·rw [if_neg hij]
   by_cases h2:j < i
   ·rw [if_pos h2,if_pos (by omega)]
   ·rw [if_neg h2,if_neg (by omega)]
 ·have e:∀ i,(a6g S l p i)[j]? = none:=fun i=>List.getElem?_eq_none (by rw [b0h];omega)
  rw [e,e,if_neg (by omega)]
theorem b4a {S:Sim} {l:List Flt} {p:Pat} {i:Nat} (h:l.length ≤ i):a6g S l p i = l.map fun f=>[.bool (S.det f p)]:=by
 unfold a6g
 apply List.ext_getElem?
 intro j
 rw [List.getElem?_map,List.getElem?_map]
 cases hj:l[j]? with
 | none=>rw [List.getElem?_eq_none (by have:=List.getElem?_eq_none_iff.1 hj;simpa using this)];rfl
 | some f=>
  have hjl:=(List.getElem?_eq_some_iff.1 hj).1
  have hD:l.getD j fD = f:=by rw [List.getD_eq_getElem?_getD,hj];rfl
  rw [List.getElem?_range hjl]
  simp only [Option.map_some]
  rw [if_pos (by omega),hD]
theorem a6l (S:Sim) (l:List Flt) (p:Pat) (i:Nat):FlatR (a6g S l p i):=FlatR.map fun _=>rfl
def a2f (l:List Flt) (t:Nat):List Flt:=(l.drop (64 * t)).take 64
theorem c8l (l:List Flt) (t:Nat) (h:64 * t < l.length):(l.take (min (64 * t + 64) l.length)).drop (64 * t) = a2f l t:=by
 unfold a2f
 rw [List.drop_take]
 by_cases h1:64 * t + 64 ≤ l.length
 ·rw [Nat.min_eq_left h1,Nat.add_sub_cancel_left]
 ·rw [Nat.min_eq_right (by omega),List.take_of_length_le (by simp),List.take_of_length_le (by simp;omega)]
theorem c4m {l:List Flt} {t:Nat} {f:Flt} (h:f ∈ a2f l t):f ∈ l:=List.mem_of_mem_drop (List.mem_of_mem_take h)
theorem c4n (l:List Flt) (t:Nat):(a2f l t).length = min 64 (l.length - 64 * t):=by unfold a2f;simp
theorem c4o {l:List Flt} {t q:Nat} (h:q < 64):(a2f l t)[q]? = l[64 * t + q]?:=by
 unfold a2f;rw [List.getElem?_take,if_pos h,List.getElem?_drop]
theorem c41 (c:Cir) (h:c.wf) (rl:Rep) (l:List Flt) (p:Pat) (hll:l.length ≤ 1000) (hf:∀ f ∈ l,FltOk c.nodes f) (hp:PatOk c.nodes p) (ord:List Nat) (hop:ord.Perm (List.range c.nodes.length))
 (hst:∀ (d:Bool) (H:a04),a0e L.env d (f7x L.env Mf) (.func (.func 18) [] []) [.agg c.enc] H = some (.agg (b0u c ord net0V pin0V),H,[])) :
 f7x L.env Mf 11 [.agg c.enc,sl rl (l.map Flt.enc),.agg p.enc] [] = some (.tuple [.islice (l.map fun f=>[.bool ((a1p c ord).det f p)]) (some l.length),.int .i64 0],[]):=by
 have hnl:=h.len
 have hck:=fun (X Y:Option AObj)=>a2g (E:=L.env) (draw:=false) (call:=f7x L.env Mf) (g:=17) (fs:=[]) (cs:=[]) (ar:=[.agg c.enc,sl rl (l.map Flt.enc),.slice 2 0 1 (some 1)]) (H:=[X,Y,some (.row 2 ([p].map Pat.enc))]) (b:=2) (by kernel_rfl) (by kernel_rfl) rfl rfl (a0t (b19 [p])) (FlatO.row (b19 [p])) (by simp only [List.nil_append,List.append_nil,a08,a10,Cir.enc,go_sem]) (args':=[.agg c.enc,sl rl (l.map Flt.enc),.slice 0 0 1 (some 1)]) (by simp only [List.nil_append,List.append_nil,List.map_cons,List.map_nil,a2b,c6g,b5k]) (d68 c h rl l [p] (by omega) (by simp) hf (by simpa using hp)) rfl
 have hrm:l.length ≤ 1000000000:=by omega
 obtain ⟨r0,e3⟩:=a2u (kinds c.nodes 0)
 obtain ⟨r1,e4⟩:=a2u (kinds c.nodes 14)
 have hEe:∀ net pin,b0u c ord net pin = [sl c.nc (c.nodes.map Nd.enc),sl c.mc (c.names.map a1r),.nilslice,sl c.oc (c.outs.map a0f),.islice (ord.map a0f) (some c.nodes.length),sl r0 ((kinds c.nodes 0).map a0f),sl r1 ((kinds c.nodes 14).map a0f),net,pin]:=by intro net pin;unfold b0u;rw [e3,e4]
 have hs0:net0V.storable = true:=rfl
 have hs1:pin0V.storable = true:=rfl
 have hor:∀ n ∈ ord,n < c.nodes.length:=fun n hn=>by have:=hop.mem_iff.1 hn;simpa using this
 have hol:ord.length ≤ 1000:=by rw [hop.length_eq];simp;omega
 have hst1:=fun H=>hst false H
 have hki:=a37 c.nodes 0
 have hk14:=a37 c.nodes 14
 have hfi:=fun H=>b5r (d:=true) H p.ic p.ins (by have:=hp.ins;omega) hp.inv
 have hfs:=fun H=>b5r (d:=true) H p.sc p.sts (by have:=hp.sts;omega) hp.stv
 have hr0:=fun H=>c1y (d:=false) H c h ord hor hol net0V pin0V f6x (e5i _) (e5a _) none none (p.ins.map a1a) (p.sts.map a1a) (by rw [List.length_map];exact hp.ins) (by rw [List.length_map];exact hp.sts)
 rw [hEe] at hst1
 simp only [hEe] at hr0
 simp only [Cir.enc] at hck hst1 ⊢
 have hpe:[p].map Pat.enc = [[sl p.ic (p.ins.map u8R),sl p.sc (p.sts.map u8R)]]:=rfl
 rw [hpe] at hck
 have hpe2:Pat.enc p = [sl p.ic (p.ins.map u8R),sl p.sc (p.sts.map u8R)]:=rfl
 rw [hpe2]
 suffices hs:∃ r:AV × a04,(r = (.tuple [.islice (l.map fun f=>[.bool ((a1p c ord).det f p)]) (some l.length),.int .i64 0],[])) ∧ f7x L.env Mf 11 [.agg [sl c.nc (c.nodes.map Nd.enc),sl c.mc (c.names.map a1r),.nilslice,sl c.oc (c.outs.map a0f)],sl rl (l.map Flt.enc),.agg [sl p.ic (p.ins.map u8R),sl p.sc (p.sts.map u8R)]] [] = some r by
  obtain ⟨r,rfl,h3⟩:=hs
  exact h3
 (refine svE Tryz.f11 ?_;simp only [Tryz.f11,gS])
 generalize hG:(a1p c ord).nets a2m f6x (p.ins.map a1a) (p.sts.map a1a) = G at hr0
 generalize hSG:(a1p c ord).seen a2m f6x G = SG at hr0
 have hgl:G.length = c.nodes.length:=by rw [← hG];exact a9z _ _ _ _ _
 (repeat first|simp only [ww]|(apply xa;simp +decide only [go_sem,hck,hrm,hst1,hs0,hs1,hfi,hfs,hr0];rfl;kernel_rfl))
 have hr2:refs net0V = []:=rfl
 have hr3:refs pin0V = []:=rfl
 have hn2:∀ π,ren π net0V = net0V:=fun π=>rfl
 have hn3:∀ π,ren π pin0V = pin0V:=fun π=>rfl
 refine a0w (σ:=Nat) kp11_0 (fun k=>[(1,sl rl (l.map Flt.enc)),(9,.ptr 0 0 0),(10,sl none ((p.ins.map a1a).map W.enc)),(11,sl none ((p.sts.map a1a).map W.enc)),(12,.islice (G.map W.enc) (some c.nodes.length)),(13,sl none (SG.map W.enc)),(14,.slice 1 0 l.length (some l.length)),(15,.int .i64 (64 * k:Nat))]) (fun k=>[some (.row 9 [[sl c.nc (c.nodes.map Nd.enc),sl c.mc (c.names.map a1r),.nilslice,sl c.oc (c.outs.map a0f),.islice (ord.map a0f) (some c.nodes.length),sl r0 ((kinds c.nodes 0).map a0f),sl r1 ((kinds c.nodes 14).map a0f),net0V,pin0V]]),some (.row 1 (a6g (a1p c ord) l p (64 * k)))]) (fun k=>(l.length + 63) / 64 - k) (fun k=>k ≤ (l.length + 63) / 64) 0 ?_ (Nat.zero_le _) ?_
 ·have e0:=c4s (a1p c ord) l p
  rw [← e0] at *
  have h1:=a0a (a6l (a1p c ord) l p 0)
  have h2:=fun π=>a0d π (a6l (a1p c ord) l p 0)
  generalize a6g (a1p c ord) l p 0 = D at h1 h2
  (simp +decide only [go_sem,a01,a00,hr2,hr3,hn2,hn3,h1,h2]<;>rfl)<;>rfl
 ·intro k hk
  by_cases hlt:64 * k < l.length
  ·have c1:((64 * k:Nat):Int) < l.length:=by omega
   have hw64:IntKind.i64.wrap (((64 * k:Nat):Int) + 64) = ((64 * (k + 1):Nat):Int):=by rw [w64 (by omega) (by omega)];omega
   obtain ⟨rp,hrp⟩:=e08 rl (l.map Flt.enc) (64 * k) (min (64 * k + 64) l.length)
   rw [← List.map_take,← List.map_drop,c8l l k hlt] at hrp
   have hmn:(if (l.length:Int) < ((64 * (k + 1):Nat):Int) then (l.length:Int) else ((64 * (k + 1):Nat):Int)) = ((min (64 * k + 64) l.length:Nat):Int):=by split<;>omega
   have hi1:inB ((min (64 * k + 64) l.length:Nat):Int) l.length = true:=d4k (by omega)
   have hi2:inB ((64 * k:Nat):Int) (min (64 * k + 64) l.length) = true:=d4k (by omega)
   have hal1:(l.map Flt.enc).all (fun r=>decide (r.length = 5)) = true:=by simp [Flt.enc]
   have hcl:=c4n l k
   obtain ⟨net,pin,esN,esP,hO,hNF,hPF,hst2,hst3,hec⟩:=c8u c h ord rp (some (some c.nodes.length)) (a2f l k) G (fun f hf'=>hf f (c4m hf')) (by omega) hgl
   have hec:=fun H=>hec false H
   have hrn:=fun H=>c1y (d:=false) H c h ord hor hol net pin (b22 (a2f l k) G esN esP) hNF hPF none none (p.ins.map a1a) (p.sts.map a1a) (by rw [List.length_map];exact hp.ins) (by rw [List.length_map];exact hp.sts)
   have hct:=fun H=>b7u (d:=false) H none none SG ((a1p c ord).seen a2m (b22 (a2f l k) G esN esP) ((a1p c ord).nets a2m (b22 (a2f l k) G esN esP) (p.ins.map a1a) (p.sts.map a1a))) (by rw [← hSG,b6v,b6v];omega) (by rw [← hSG,b6v];have:=h.outl;omega)
   have hbit:∀ q f,(a2f l k)[q]? = some f → (b86 SG ((a1p c ord).seen a2m (b22 (a2f l k) G esN esP) ((a1p c ord).nets a2m (b22 (a2f l k) G esN esP) (p.ins.map a1a) (p.sts.map a1a))) 0).getLsbD q = (a1p c ord).det f p:=by
    intro q f hq
    have hql:=(List.getElem?_eq_some_iff.1 hq).1
    have hh:=d7l (good:=G) hO (by omega) hq
    rw [← hG] at hh
    have:=d2v (a1p c ord) (j:=q) (by omega) f p (p.ins.map a1a) (p.sts.map a1a) (b61 (by omega) _) (b61 (by omega) _) _ hh
    rw [hG] at this
    rw [← hSG]
    exact this
   generalize b86 SG ((a1p c ord).seen a2m (b22 (a2f l k) G esN esP) ((a1p c ord).nets a2m (b22 (a2f l k) G esN esP) (p.ins.map a1a) (p.sts.map a1a))) 0 = wd at hct hbit
   generalize (a1p c ord).nets a2m (b22 (a2f l k) G esN esP) (p.ins.map a1a) (p.sts.map a1a) = G2 at hrn hct
   generalize (a1p c ord).seen a2m (b22 (a2f l k) G esN esP) G2 = SG2 at hrn hct
   simp only [hEe] at hec hrn
   simp only [a7i] at hec
   (repeat first|simp only [ww]|(apply xa;simp +decide only [go_sem,c1,hw64,e6v,hmn,hi1,hi2,hal1,hrp,hec,hrn,hct];rfl;kernel_rfl))
   refine a0w (σ:=Nat) kp11_2 (fun q=>[(1,sl rl (l.map Flt.enc)),(9,.ptr 0 0 0),(10,sl none ((p.ins.map a1a).map W.enc)),(11,sl none ((p.sts.map a1a).map W.enc)),(12,.islice (G.map W.enc) (some c.nodes.length)),(13,sl none (SG.map W.enc)),(14,.slice 1 0 l.length (some l.length)),(15,.int .i64 (64 * k:Nat)),(19,u64 wd),(75,.int .i64 (a2f l k).length),(76,.int .i64 q)]) (fun q=>[some (.row 9 [[sl c.nc (c.nodes.map Nd.enc),sl c.mc (c.names.map a1r),.nilslice,sl c.oc (c.outs.map a0f),.islice (ord.map a0f) (some c.nodes.length),sl r0 ((kinds c.nodes 0).map a0f),sl r1 ((kinds c.nodes 14).map a0f),net0V,pin0V]]),some (.row 1 (a6g (a1p c ord) l p (64 * k + q)))]) (fun q=>(a2f l k).length - q) (fun q=>q ≤ (a2f l k).length) 0 ?_ (Nat.zero_le _) ?_
   ·rw [Nat.add_zero]
    have h1:=a0a (a6l (a1p c ord) l p (64 * k))
    have h2:=fun π=>a0d π (a6l (a1p c ord) l p (64 * k))
    generalize a6g (a1p c ord) l p (64 * k) = D at h1 h2
    (simp +decide only [go_sem,a01,a00,hr2,hr3,hn2,hn3,h1,h2]<;>rfl)<;>rfl
   ·intro q hq
    by_cases hql:q < (a2f l k).length
    ·obtain ⟨f,hfq⟩:∃ f,(a2f l k)[q]? = some f:=⟨_,List.getElem?_eq_getElem hql⟩
     have hlf:=hfq
     rw [c4o (by omega)] at hlf
     have hsc:=c4t (S:=(a1p c ord)) (p:=p) hlf
     have c2:(q:Int) < (a2f l k).length:=by omega
     have c3:¬ (q:Int) < 0:=by omega
     have hwq:=wI1 (n:=q) (by omega)
     have hwk:IntKind.i64.wrap (((64 * k:Nat):Int) + (q:Int)) = ((64 * k + q:Nat):Int):=by rw [w64 (by omega) (by omega)];omega
     have hb:=c3b wd q
     rw [hbit q f hfq] at hb
     have hdl:=b0h (a1p c ord) l p (64 * k + q)
     have hix:64 * k + q < l.length:=by omega
     have hfd:=a6l (a1p c ord) l p (64 * k + (q + 1))
     have hgt:=b49 (S:=(a1p c ord)) (p:=p) (i:=64 * k + q) hix
     rw [show 64 * k + q + 1 = 64 * k + (q + 1) by omega] at hsc
     generalize (a1p c ord).det f p = bt at hb hsc
     have h1:=a0a hfd
     have h2:=fun π=>a0d π hfd
     generalize hD2:a6g (a1p c ord) l p (64 * k + (q + 1)) = D2 at h1 h2 hsc
     generalize a6g (a1p c ord) l p (64 * k + q) = D at hdl hgt hsc
     (repeat first|simp only [ww]|(apply xa;simp +decide only [go_sem,c2,c3,hwq,hwk,hb,hdl,hix,hgt,hsc];rfl;kernel_rfl))
     refine a1w (q + 1) ?_ (by omega) (by omega)
     simp only [hD2]
     (simp +decide only [go_sem,a01,a00,hr2,hr3,hn2,hn3,h1,h2]<;>rfl)<;>rfl
    ·obtain rfl:q = (a2f l k).length:=by omega
     have c2:¬ ((a2f l k).length:Int) < (a2f l k).length:=by omega
     have hnext:a6g (a1p c ord) l p (64 * k + (a2f l k).length) = a6g (a1p c ord) l p (64 * (k + 1)):=by
      by_cases h64:(a2f l k).length = 64
      ·rw [h64];rfl
      ·rw [b4a (by omega),b4a (by omega)]
     rw [hnext]
     have h1:=a0a (a6l (a1p c ord) l p (64 * (k + 1)))
     have h2:=fun π=>a0d π (a6l (a1p c ord) l p (64 * (k + 1)))
     generalize hD2:a6g (a1p c ord) l p (64 * (k + 1)) = D at h1 h2
     (repeat first|simp only [ww]|(apply xa;simp +decide only [go_sem,c2,hw64];rfl;kernel_rfl))
     refine a1w (k + 1) ?_ (by omega) (by omega)
     simp only [hD2]
     (simp +decide only [go_sem,a01,a00,hr2,hr3,hn2,hn3,h1,h2]<;>rfl)<;>rfl
  ·have c1:¬ ((64 * k:Nat):Int) < l.length:=by omega
   have hfd:=a6l (a1p c ord) l p (64 * k)
   have hda:=b4a (S:=(a1p c ord)) (l:=l) (p:=p) (i:=64 * k) (by omega)
   have hdl:=b0h (a1p c ord) l p (64 * k)
   generalize hD:a6g (a1p c ord) l p (64 * k) = D at hfd hda hdl
   (repeat first|simp only [ww]|(apply xa;simp +decide only [go_sem,c1];rfl;kernel_rfl))
   refine a2t (vs:=[.slice 1 0 l.length (some l.length),.int .i64 0]) (r:=(_,[])) (by simp +decide only [go_sem]) ?_ rfl
   show a1v false 0 (.tuple [.slice 1 0 l.length (some l.length),.int .i64 0]) _ = _
   have htk:D.take l.length = D:=List.take_of_length_le (by omega)
   rw [← hda]
   simp +decide only [go_sem,a0q _ _ hfd,hdl,htk]
open Go.Proofs Go.Ax Go.Pc
set_option maxRecDepth 100000
open Go.Proofs Go.Ax Go.Pc
set_option maxRecDepth 100000
attribute [go_sem] List.length_map List.getElem?_map
theorem c48 {d:Bool} (H:a04):a0e L.env d (f7x L.env Mf) (.func (.func 12) [] []) [] H = some (.bool true,H,[]):=
 a03 (by kernel_rfl) (by kernel_rfl) rfl rfl c7e rfl
open Go.Proofs Go.Ax Go.Pc
set_option maxRecDepth 100000
end Go.ZInst
