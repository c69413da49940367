/- Part of a proof. No condition. -/
import Derived.Test.YtllalbnibhofiaaGreatDoorZPd
import Derived.Test.YtllalbnibhofiaaGreatDoorPcC
set_option linter.unusedSimpArgs false
set_option linter.unusedVariables false
namespace Go.ZInst
open Go.Proofs Go.Ax Go.Pc
set_option maxRecDepth 100000
theorem valF_eq (good:List W) (f:Flt) (j:Nat):valF good f j = valW good f j:=rfl
theorem eachHom {fs:List Flt} {good:List W} {esN:List (Nat × List Nat)} {esP:List ((Nat × Nat) × List Nat)} (h:EachOk fs fs.length esN esP) (hfl:fs.length ≤ 64) {j:Nat} {f:Flt} (hj:fs[j]? = some f) :
 HkHom (lane j) (eachH fs good esN esP) (hkF f (lane j (faultG wAlg good f))):=by
 have hjl:=(List.getElem?_eq_some_iff.1 hj).1
 have hD:fs.getD j fD = f:=by rw [List.getD_eq_getElem?_getD,hj];rfl
 have hv:∀ l w,(∀ k ∈ l,k < 64) → lane j (putF fs good l w) = if j ∈ l then lane j (faultG wAlg good f) else lane j w:=by
  intro l w hl
  have:=lane_putW (j:=j) (by omega) (fun k=>valF good (fs.getD k fD) k) l w hl
  rw [hD,valF_eq,vFill_val (by omega)] at this
  exact this
 refine ⟨fun n w=>?_,fun n p w=>?_⟩
 ·show lane j (putF fs good (atE n esN) w) = if f.hitsNet n then lane j (faultG wAlg good f) else lane j w
  rw [hv _ _ (fun k hk=>by rw [h.net n] at hk;have:=(List.mem_filter.1 hk).1;simp at this;omega),h.net n]
  have e:(j ∈ (List.range fs.length).filter fun k=>(fs.getD k fD).hitsNet n) = (f.hitsNet n = true):=by
   rw [List.mem_filter,hD];simp [hjl]
  simp only [e]
 ·show lane j (putF fs good (atE (n,p) esP) w) = if f.hitsPin n p then lane j (faultG wAlg good f) else lane j w
  rw [hv _ _ (fun k hk=>by rw [h.pin (n,p)] at hk;have:=(List.mem_filter.1 hk).1;simp at this;omega),h.pin (n,p)]
  have e:(j ∈ (List.range fs.length).filter fun k=>(fs.getD k fD).hitsPin (n,p).1 (n,p).2) = (f.hitsPin n p = true):=by
   rw [List.mem_filter,hD];simp [hjl]
  simp only [e]
theorem lanes_fill {j:Nat} (hj:j < 64) (l:List Nat):(l.map wFill).map (lane j) = l.map vFill:=by
 rw [List.map_map];exact List.map_congr_left fun v _=>lane_fill hj v
theorem flat_pR (l:List Pat):FlatR (l.map Pat.enc):=FlatR.map fun p=>by simp only [Pat.enc,refsL_cons,refsL_nil,refs_sl,List.append_nil]
def detTo (S:Sim) (l:List Flt) (p:Pat) (i:Nat):List (List AV):=(List.range l.length).map fun j=>[.bool (if j < i then S.det (l.getD j fD) p else false)]
theorem detTo_len (S:Sim) (l:List Flt) (p:Pat) (i:Nat):(detTo S l p i).length = l.length:=by simp [detTo]
theorem detTo_zero (S:Sim) (l:List Flt) (p:Pat):detTo S l p 0 = List.replicate l.length [.bool false]:=by
 unfold detTo
 refine (List.map_congr_left (g:=fun _=>[AV.bool false]) (fun j _=>by rw [if_neg (Nat.not_lt_zero _)])).trans ?_
 rw [List.map_const',List.length_range]
theorem detTo_get {S:Sim} {l:List Flt} {p:Pat} {i j:Nat} (h:j < l.length):(detTo S l p i)[j]? = some [.bool (if j < i then S.det (l.getD j fD) p else false)]:=by
 unfold detTo;rw [List.getElem?_map,List.getElem?_range h];rfl
theorem detTo_succ {S:Sim} {l:List Flt} {p:Pat} {i:Nat} {f:Flt} (h:l[i]? = some f):(detTo S l p i).set i [.bool (S.det f p)] = detTo S l p (i + 1):=by
 have hi:=(List.getElem?_eq_some_iff.1 h).1
 have hD:l.getD i fD = f:=by rw [List.getD_eq_getElem?_getD,h];rfl
 apply List.ext_getElem?
 intro j
 rw [List.getElem?_set,detTo_len]
 by_cases hj:j < l.length
 ·rw [detTo_get hj,detTo_get hj]
  by_cases hij:i = j
  ·subst hij;rw [if_pos rfl,if_pos hi,if_pos (by omega),hD]
  ·rw [if_neg hij]
   by_cases h2:j < i
   ·rw [if_pos h2,if_pos (by omega)]
   ·rw [if_neg h2,if_neg (by omega)]
 ·have e:∀ i,(detTo S l p i)[j]? = none:=fun i=>List.getElem?_eq_none (by rw [detTo_len];omega)
  rw [e,e,if_neg (by omega)]
theorem detTo_all {S:Sim} {l:List Flt} {p:Pat} {i:Nat} (h:l.length ≤ i):detTo S l p i = l.map fun f=>[.bool (S.det f p)]:=by
 unfold detTo
 apply List.ext_getElem?
 intro j
 rw [List.getElem?_map,List.getElem?_map]
 cases hj:l[j]? with
 | none=>rw [List.getElem?_eq_none (by have:=List.getElem?_eq_none_iff.1 hj;simpa using this)];rfl
 | some f=>
  have hjl:=(List.getElem?_eq_some_iff.1 hj).1
  have hD:l.getD j fD = f:=by rw [List.getD_eq_getElem?_getD,hj];rfl
  rw [List.getElem?_range hjl]
  simp only [Option.map_some]
  rw [if_pos (by omega),hD]
theorem flat_det (S:Sim) (l:List Flt) (p:Pat) (i:Nat):FlatR (detTo S l p i):=FlatR.map fun _=>rfl
def fchunk (l:List Flt) (t:Nat):List Flt:=(l.drop (64 * t)).take 64
theorem fchunk_eq (l:List Flt) (t:Nat) (h:64 * t < l.length):(l.take (min (64 * t + 64) l.length)).drop (64 * t) = fchunk l t:=by
 unfold fchunk
 rw [List.drop_take]
 by_cases h1:64 * t + 64 ≤ l.length
 ·rw [Nat.min_eq_left h1,Nat.add_sub_cancel_left]
 ·rw [Nat.min_eq_right (by omega),List.take_of_length_le (by simp),List.take_of_length_le (by simp;omega)]
theorem fchunk_mem {l:List Flt} {t:Nat} {f:Flt} (h:f ∈ fchunk l t):f ∈ l:=List.mem_of_mem_drop (List.mem_of_mem_take h)
theorem fchunk_len (l:List Flt) (t:Nat):(fchunk l t).length = min 64 (l.length - 64 * t):=by unfold fchunk;simp
theorem fchunk_get {l:List Flt} {t q:Nat} (h:q < 64):(fchunk l t)[q]? = l[64 * t + q]?:=by
 unfold fchunk;rw [List.getElem?_take,if_pos h,List.getElem?_drop]
set_option maxHeartbeats 4000000 in
theorem pfaults_ok (c:Cir) (h:c.wf) (rl:Rep) (l:List Flt) (p:Pat) (hll:l.length ≤ 1000) (hf:∀ f ∈ l,FltOk c.nodes f) (hp:PatOk c.nodes p) (ord:List Nat) (hop:ord.Perm (List.range c.nodes.length))
 (hst:∀ (d:Bool) (H:Heap),callV L.env d (sem L.env Mf) (.func (.func 18) [] []) [.agg c.enc] H = some (.agg (engE c ord net0V pin0V),H,[])) :
 sem L.env Mf 11 [.agg c.enc,sl rl (l.map Flt.enc),.agg p.enc] [] = some (.tuple [.islice (l.map fun f=>[.bool ((simOf c ord).det f p)]) (some l.length),.int .i64 0],[]):=by
 have hnl:=h.len
 have hck:=fun (X Y:Option AObj)=>callV_one (E:=L.env) (draw:=false) (call:=sem L.env Mf) (g:=17) (fs:=[]) (cs:=[]) (ar:=[.agg c.enc,sl rl (l.map Flt.enc),.slice 2 0 1 (some 1)]) (H:=[X,Y,some (.row 2 ([p].map Pat.enc))]) (b:=2) (by kernel_rfl) (by kernel_rfl) rfl rfl (refsO_flat (flat_pR [p])) (FlatO.row (flat_pR [p])) (by simp only [List.nil_append,List.append_nil,refsL_cons,refs_agg,Cir.enc,go_sem]) (args':=[.agg c.enc,sl rl (l.map Flt.enc),.slice 0 0 1 (some 1)]) (by simp only [List.nil_append,List.append_nil,List.map_cons,List.map_nil,ren_slice1,ren_cir,ren_sl]) (pcheckC c h rl l [p] (by omega) (by simp) hf (by simpa using hp)) rfl
 have hrm:l.length ≤ 1000000000:=by omega
 obtain ⟨r0,e3⟩:=idxV_sl (kinds c.nodes 0)
 obtain ⟨r1,e4⟩:=idxV_sl (kinds c.nodes 14)
 have hEe:∀ net pin,engE c ord net pin = [sl c.nc (c.nodes.map Nd.enc),sl c.mc (c.names.map strR),.nilslice,sl c.oc (c.outs.map intR),.islice (ord.map intR) (some c.nodes.length),sl r0 ((kinds c.nodes 0).map intR),sl r1 ((kinds c.nodes 14).map intR),net,pin]:=by intro net pin;unfold engE;rw [e3,e4]
 have hs0:net0V.storable = true:=rfl
 have hs1:pin0V.storable = true:=rfl
 have hor:∀ n ∈ ord,n < c.nodes.length:=fun n hn=>by have:=hop.mem_iff.1 hn;simpa using this
 have hol:ord.length ≤ 1000:=by rw [hop.length_eq];simp;omega
 have hst1:=fun H=>hst false H
 have hki:=kinds_le c.nodes 0
 have hk14:=kinds_le c.nodes 14
 have hfi:=fun H=>pfill_call (d:=true) H p.ic p.ins (by have:=hp.ins;omega) hp.inv
 have hfs:=fun H=>pfill_call (d:=true) H p.sc p.sts (by have:=hp.sts;omega) hp.stv
 have hr0:=fun H=>run_call (d:=false) H c h ord hor hol net0V pin0V hk0 (net0F _) (pin0F _) none none (p.ins.map wFill) (p.sts.map wFill) (by rw [List.length_map];exact hp.ins) (by rw [List.length_map];exact hp.sts)
 rw [hEe] at hst1
 simp only [hEe] at hr0
 simp only [Cir.enc] at hck hst1 ⊢
 have hpe:[p].map Pat.enc = [[sl p.ic (p.ins.map u8R),sl p.sc (p.sts.map u8R)]]:=rfl
 rw [hpe] at hck
 have hpe2:Pat.enc p = [sl p.ic (p.ins.map u8R),sl p.sc (p.sts.map u8R)]:=rfl
 rw [hpe2]
 suffices hs:∃ r:AV × Heap,(r = (.tuple [.islice (l.map fun f=>[.bool ((simOf c ord).det f p)]) (some l.length),.int .i64 0],[])) ∧ sem L.env Mf 11 [.agg [sl c.nc (c.nodes.map Nd.enc),sl c.mc (c.names.map strR),.nilslice,sl c.oc (c.outs.map intR)],sl rl (l.map Flt.enc),.agg [sl p.ic (p.ins.map u8R),sl p.sc (p.sts.map u8R)]] [] = some r by
  obtain ⟨r,rfl,h3⟩:=hs
  exact h3
 (refine sem_wpE (code:=(Tryz.f11.body).getD .skip) (N:=91) (results:=[.tmp 6,.tmp 7]) (by kernel_rfl) (no _ (by rfl)) rfl rfl ?_;simp only [Tryz.f11,Option.getD_some])
 generalize hG:(simOf c ord).nets wAlg hk0 (p.ins.map wFill) (p.sts.map wFill) = G at hr0
 generalize hSG:(simOf c ord).seen wAlg hk0 G = SG at hr0
 have hgl:G.length = c.nodes.length:=by rw [← hG];exact netsG_len _ _ _ _ _
 (repeat first|simp only [ww]|((with_reducible first|apply xs|apply xI);(·simp +decide only [go_sem,hck,hrm,hst1,hs0,hs1,hfi,hfs,hr0];rfl);with_reducible first|apply xT|apply xF|(·kernel_rfl)))
 have hr2:refs net0V = []:=rfl
 have hr3:refs pin0V = []:=rfl
 have hn2:∀ π,ren π net0V = net0V:=fun π=>rfl
 have hn3:∀ π,ren π pin0V = pin0V:=fun π=>rfl
 refine xp_loop3 (σ:=Nat) kp11_0 (fun k=>[(1,sl rl (l.map Flt.enc)),(9,.ptr 0 0 0),(10,sl none ((p.ins.map wFill).map W.enc)),(11,sl none ((p.sts.map wFill).map W.enc)),(12,.islice (G.map W.enc) (some c.nodes.length)),(13,sl none (SG.map W.enc)),(14,.slice 1 0 l.length (some l.length)),(15,.int .i64 (64 * k:Nat))]) (fun k=>[some (.row 9 [[sl c.nc (c.nodes.map Nd.enc),sl c.mc (c.names.map strR),.nilslice,sl c.oc (c.outs.map intR),.islice (ord.map intR) (some c.nodes.length),sl r0 ((kinds c.nodes 0).map intR),sl r1 ((kinds c.nodes 14).map intR),net0V,pin0V]]),some (.row 1 (detTo (simOf c ord) l p (64 * k)))]) (fun k=>(l.length + 63) / 64 - k) (fun k=>k ≤ (l.length + 63) / 64) 0 ?_ (Nat.zero_le _) ?_
 ·have e0:=detTo_zero (simOf c ord) l p
  rw [← e0] at *
  have h1:=refs_flatR (flat_det (simOf c ord) l p 0)
  have h2:=fun π=>renR_flat π (flat_det (simOf c ord) l p 0)
  generalize detTo (simOf c ord) l p 0 = D at h1 h2
  (simp +decide only [go_sem,gcD_eq,gcIds_eq,hr2,hr3,hn2,hn3,h1,h2]<;>rfl)<;>rfl
 ·intro k hk
  by_cases hlt:64 * k < l.length
  ·have c1:((64 * k:Nat):Int) < l.length:=by omega
   have hw64:IntKind.i64.wrap (((64 * k:Nat):Int) + 64) = ((64 * (k + 1):Nat):Int):=by rw [w64 (by omega) (by omega)];omega
   obtain ⟨rp,hrp⟩:=slP_sl rl (l.map Flt.enc) (64 * k) (min (64 * k + 64) l.length)
   rw [← List.map_take,← List.map_drop,fchunk_eq l k hlt] at hrp
   have hmn:(if (l.length:Int) < ((64 * (k + 1):Nat):Int) then (l.length:Int) else ((64 * (k + 1):Nat):Int)) = ((min (64 * k + 64) l.length:Nat):Int):=by split<;>omega
   have hi1:inB ((min (64 * k + 64) l.length:Nat):Int) l.length = true:=inB_le (by omega)
   have hi2:inB ((64 * k:Nat):Int) (min (64 * k + 64) l.length) = true:=inB_le (by omega)
   have hal1:(l.map Flt.enc).all (fun r=>decide (r.length = 5)) = true:=by simp [Flt.enc]
   have hcl:=fchunk_len l k
   obtain ⟨net,pin,esN,esP,hO,hNF,hPF,hst2,hst3,hec⟩:=each_call c h ord rp (some (some c.nodes.length)) (fchunk l k) G (fun f hf'=>hf f (fchunk_mem hf')) (by omega) hgl
   have hec:=fun H=>hec false H
   have hrn:=fun H=>run_call (d:=false) H c h ord hor hol net pin (eachH (fchunk l k) G esN esP) hNF hPF none none (p.ins.map wFill) (p.sts.map wFill) (by rw [List.length_map];exact hp.ins) (by rw [List.length_map];exact hp.sts)
   have hct:=fun H=>contrary_call (d:=false) H none none SG ((simOf c ord).seen wAlg (eachH (fchunk l k) G esN esP) ((simOf c ord).nets wAlg (eachH (fchunk l k) G esN esP) (p.ins.map wFill) (p.sts.map wFill))) (by rw [← hSG,seen_len,seen_len];omega) (by rw [← hSG,seen_len];have:=h.outl;omega)
   have hbit:∀ q f,(fchunk l k)[q]? = some f → (ctrs SG ((simOf c ord).seen wAlg (eachH (fchunk l k) G esN esP) ((simOf c ord).nets wAlg (eachH (fchunk l k) G esN esP) (p.ins.map wFill) (p.sts.map wFill))) 0).getLsbD q = (simOf c ord).det f p:=by
    intro q f hq
    have hql:=(List.getElem?_eq_some_iff.1 hq).1
    have hh:=eachHom (good:=G) hO (by omega) hq
    rw [← hG] at hh
    have:=det_lane (simOf c ord) (j:=q) (by omega) f p (p.ins.map wFill) (p.sts.map wFill) (lanes_fill (by omega) _) (lanes_fill (by omega) _) _ hh
    rw [hG] at this
    rw [← hSG]
    exact this
   generalize ctrs SG ((simOf c ord).seen wAlg (eachH (fchunk l k) G esN esP) ((simOf c ord).nets wAlg (eachH (fchunk l k) G esN esP) (p.ins.map wFill) (p.sts.map wFill))) 0 = wd at hct hbit
   generalize (simOf c ord).nets wAlg (eachH (fchunk l k) G esN esP) (p.ins.map wFill) (p.sts.map wFill) = G2 at hrn hct
   generalize (simOf c ord).seen wAlg (eachH (fchunk l k) G esN esP) G2 = SG2 at hrn hct
   simp only [hEe] at hec hrn
   simp only [sl_some] at hec
   (repeat first|simp only [ww]|((with_reducible first|apply xs|apply xI);(·simp +decide only [go_sem,c1,hw64,amin2,hmn,hi1,hi2,hal1,hrp,hec,hrn,hct];rfl);with_reducible first|apply xT|apply xF|(·kernel_rfl)))
   refine xp_loop3 (σ:=Nat) kp11_2 (fun q=>[(1,sl rl (l.map Flt.enc)),(9,.ptr 0 0 0),(10,sl none ((p.ins.map wFill).map W.enc)),(11,sl none ((p.sts.map wFill).map W.enc)),(12,.islice (G.map W.enc) (some c.nodes.length)),(13,sl none (SG.map W.enc)),(14,.slice 1 0 l.length (some l.length)),(15,.int .i64 (64 * k:Nat)),(19,u64 wd),(75,.int .i64 (fchunk l k).length),(76,.int .i64 q)]) (fun q=>[some (.row 9 [[sl c.nc (c.nodes.map Nd.enc),sl c.mc (c.names.map strR),.nilslice,sl c.oc (c.outs.map intR),.islice (ord.map intR) (some c.nodes.length),sl r0 ((kinds c.nodes 0).map intR),sl r1 ((kinds c.nodes 14).map intR),net0V,pin0V]]),some (.row 1 (detTo (simOf c ord) l p (64 * k + q)))]) (fun q=>(fchunk l k).length - q) (fun q=>q ≤ (fchunk l k).length) 0 ?_ (Nat.zero_le _) ?_
   ·rw [Nat.add_zero]
    have h1:=refs_flatR (flat_det (simOf c ord) l p (64 * k))
    have h2:=fun π=>renR_flat π (flat_det (simOf c ord) l p (64 * k))
    generalize detTo (simOf c ord) l p (64 * k) = D at h1 h2
    (simp +decide only [go_sem,gcD_eq,gcIds_eq,hr2,hr3,hn2,hn3,h1,h2]<;>rfl)<;>rfl
   ·intro q hq
    by_cases hql:q < (fchunk l k).length
    ·obtain ⟨f,hfq⟩:∃ f,(fchunk l k)[q]? = some f:=⟨_,List.getElem?_eq_getElem hql⟩
     have hlf:=hfq
     rw [fchunk_get (by omega)] at hlf
     have hsc:=detTo_succ (S:=(simOf c ord)) (p:=p) hlf
     have c2:(q:Int) < (fchunk l k).length:=by omega
     have c3:¬ (q:Int) < 0:=by omega
     have hwq:=wI1 (n:=q) (by omega)
     have hwk:IntKind.i64.wrap (((64 * k:Nat):Int) + (q:Int)) = ((64 * k + q:Nat):Int):=by rw [w64 (by omega) (by omega)];omega
     have hb:=bit_and1 wd q
     rw [hbit q f hfq] at hb
     have hdl:=detTo_len (simOf c ord) l p (64 * k + q)
     have hix:64 * k + q < l.length:=by omega
     have hfd:=flat_det (simOf c ord) l p (64 * k + (q + 1))
     have hgt:=detTo_get (S:=(simOf c ord)) (p:=p) (i:=64 * k + q) hix
     rw [show 64 * k + q + 1 = 64 * k + (q + 1) by omega] at hsc
     generalize (simOf c ord).det f p = bt at hb hsc
     have h1:=refs_flatR hfd
     have h2:=fun π=>renR_flat π hfd
     generalize hD2:detTo (simOf c ord) l p (64 * k + (q + 1)) = D2 at h1 h2 hsc
     generalize detTo (simOf c ord) l p (64 * k + q) = D at hdl hgt hsc
     (repeat first|simp only [ww]|((with_reducible first|apply xs|apply xI);(·simp +decide only [go_sem,c2,c3,hwq,hwk,hb,hdl,hix,hgt,hsc];rfl);with_reducible first|apply xT|apply xF|(·kernel_rfl)))
     refine lp_n (q + 1) ?_ (by omega) (by omega)
     simp only [hD2]
     (simp +decide only [go_sem,gcD_eq,gcIds_eq,hr2,hr3,hn2,hn3,h1,h2]<;>rfl)<;>rfl
    ·obtain rfl:q = (fchunk l k).length:=by omega
     have c2:¬ ((fchunk l k).length:Int) < (fchunk l k).length:=by omega
     have hnext:detTo (simOf c ord) l p (64 * k + (fchunk l k).length) = detTo (simOf c ord) l p (64 * (k + 1)):=by
      by_cases h64:(fchunk l k).length = 64
      ·rw [h64];rfl
      ·rw [detTo_all (by omega),detTo_all (by omega)]
     rw [hnext]
     have h1:=refs_flatR (flat_det (simOf c ord) l p (64 * (k + 1)))
     have h2:=fun π=>renR_flat π (flat_det (simOf c ord) l p (64 * (k + 1)))
     generalize hD2:detTo (simOf c ord) l p (64 * (k + 1)) = D at h1 h2
     (repeat first|simp only [ww]|((with_reducible first|apply xs|apply xI);(·simp +decide only [go_sem,c2,hw64];rfl);with_reducible first|apply xT|apply xF|(·kernel_rfl)))
     refine lp_n (k + 1) ?_ (by omega) (by omega)
     simp only [hD2]
     (simp +decide only [go_sem,gcD_eq,gcIds_eq,hr2,hr3,hn2,hn3,h1,h2]<;>rfl)<;>rfl
  ·have c1:¬ ((64 * k:Nat):Int) < l.length:=by omega
   have hfd:=flat_det (simOf c ord) l p (64 * k)
   have hda:=detTo_all (S:=(simOf c ord)) (l:=l) (p:=p) (i:=64 * k) (by omega)
   have hdl:=detTo_len (simOf c ord) l p (64 * k)
   generalize hD:detTo (simOf c ord) l p (64 * k) = D at hfd hda hdl
   (repeat first|simp only [ww]|((with_reducible first|apply xs|apply xI);(·simp +decide only [go_sem,c1];rfl);with_reducible first|apply xT|apply xF|(·kernel_rfl)))
   refine fqE_r (vs:=[.slice 1 0 l.length (some l.length),.int .i64 0]) (r:=(_,[])) (by simp +decide only [go_sem]) ?_ rfl
   show finish false 0 (.tuple [.slice 1 0 l.length (some l.length),.int .i64 0]) _ = _
   have htk:D.take l.length = D:=List.take_of_length_le (by omega)
   rw [← hda]
   simp +decide only [go_sem,frzR_flat _ _ hfd,hdl,htk]
open Go.Proofs Go.Ax Go.Pc
set_option maxRecDepth 100000
theorem pack_lane {ps:List Pat} (hpl:ps.length ≤ 64) {j:Nat} {p:Pat} (hj:ps[j]? = some p) (sel:Pat → List Nat) (n:Nat) (hn:(sel p).length = n):(packAll (ps.map sel) n).map (lane j) = (sel p).map vFill:=by
 have hjl:=(List.getElem?_eq_some_iff.1 hj).1
 unfold packAll
 rw [List.map_map]
 apply List.ext_getElem?
 intro i
 rw [List.getElem?_map,List.getElem?_map]
 by_cases hi:i < n
 ·rw [List.getElem?_range hi]
  obtain ⟨v,hv⟩:∃ v,(sel p)[i]? = some v:=⟨_,List.getElem?_eq_getElem (by omega)⟩
  rw [hv]
  simp only [Option.map_some,Function.comp]
  congr 1
  unfold packW
  rw [lane_placeAll (by omega) _ _ _ (by simp;omega),if_pos (by simp;omega)]
  congr 1
  rw [List.map_map,Nat.sub_zero,List.getD_eq_getElem?_getD,List.getElem?_map,hj]
  simp [hv]
 ·rw [List.getElem?_eq_none (by simpa using hi),List.getElem?_eq_none (by omega)];rfl
theorem mask_bit {n j:Nat} (hn:n < 64) (hj:j < 64):(BitVec.ofInt 64 1 <<< n - BitVec.ofInt 64 1).getLsbD j = decide (j < n):=by
 have e:∀ n:Fin 64,∀ j:Fin 64,(BitVec.ofInt 64 1 <<< n.val - BitVec.ofInt 64 1).getLsbD j.val = decide (j.val < n.val):=by decide +kernel
 exact e ⟨n,hn⟩ ⟨j,hj⟩
theorem hit_bit (c:Cir) (ord:List Nat) (f:Flt) (ps:List Pat) (hp:∀ p ∈ ps,PatOk c.nodes p) (hpl:ps.length ≤ 64) (j:Nat) (p:Pat) (hj:ps[j]? = some p):(hitW c ord f ps).getLsbD j = (simOf c ord).det f p:=by
 have hjl:=(List.getElem?_eq_some_iff.1 hj).1
 have hpm:=hp p (List.mem_of_getElem? hj)
 have hr:(hitRaw c ord f (viOf c ps) (vsOf c ps)).getLsbD j = (simOf c ord).det f p:=
  det_lane (simOf c ord) (by omega) f p (viOf c ps) (vsOf c ps) (pack_lane hpl hj Pat.ins _ hpm.ins) (pack_lane hpl hj Pat.sts _ hpm.sts) _ (hkF_hom f _)
 unfold hitW
 split
 ·rename_i h64
  rw [BitVec.getLsbD_and,hr,mask_bit h64 (by omega),decide_eq_true hjl,Bool.and_true]
 ·exact hr
theorem hit_out (c:Cir) (ord:List Nat) (f:Flt) (ps:List Pat) (j:Nat) (hj:ps.length ≤ j) (hj2:j < 64):(hitW c ord f ps).getLsbD j = false:=by
 unfold hitW
 split
 ·rename_i h64
  rw [BitVec.getLsbD_and,mask_bit h64 hj2,decide_eq_false (by omega),Bool.and_false]
 ·omega
theorem chunk_get {tests:List Pat} {t q:Nat} (h:q < 64):(chunk tests t)[q]? = tests[64 * t + q]?:=by
 unfold chunk;rw [List.getElem?_take,if_pos h,List.getElem?_drop]
/-- A bit of a table's row. -/
theorem row_bit (c:Cir) (ord:List Nat) (f:Flt) (tests:List Pat) (hp:∀ p ∈ tests,PatOk c.nodes p) (j:Nat):(hitW c ord f (chunk tests (j / 64))).getLsbD (j % 64) = match tests[j]? with
 | some p=>(simOf c ord).det f p
 | none=>false:=by
 have hg:(chunk tests (j / 64))[j % 64]? = tests[j]?:=by rw [chunk_get (Nat.mod_lt _ (by omega))];congr 1;omega
 cases hj:tests[j]? with
 | some p=>
  rw [hj] at hg
  exact hit_bit c ord f _ (fun p hp'=>hp p (chunk_mem hp')) (chunk_len _ _) _ p hg
 | none=>
  rw [hj] at hg
  exact hit_out c ord f _ _ (List.getElem?_eq_none_iff.1 hg) (Nat.mod_lt _ (by omega))
/-- The rows of a table, by faults and patterns. -/
theorem tab_get {c:Cir} {ord:List Nat} {l:List Flt} {tests:List Pat} {i:Nat} {f:Flt} (h:l[i]? = some f):(tabOf c ord l tests)[i]? = some ((List.range ((tests.length + 63) / 64)).map fun t=>hitW c ord f (chunk tests t)):=by
 unfold tabOf;rw [List.getElem?_map,h];rfl
open Go.Proofs Go.Ax Go.Pc
set_option maxRecDepth 100000
def rowE (r:Rep × List (BitVec 64)):List AV:=[sl r.1 (r.2.map w64R)]
attribute [go_sem] rowE w64R List.length_map List.getElem?_map
def atB (rows:List (Rep × List (BitVec 64))) (i k:Int):Bool:=
 if 0 ≤ i ∧ 0 ≤ k then match rows[i.toNat]? with
  | some r=>match r.2[k.toNat / 64]? with
   | some w=>w.getLsbD (k.toNat % 64)
   | none=>false
  | none=>false
 else false
theorem at_ok (c:Rep) (rows:List (Rep × List (BitVec 64))) (i k:Int) (hk:k < 9223372036854775808) :
 sem L.env Mf 10 [sl c (rows.map rowE),.int .i64 i,.int .i64 k] [] = some (.bool (atB rows i k),[]):=by
 by_cases hi:i < 0
 ·have e:atB rows i k = false:=by simp [atB];omega
  rw [e]
  (refine sem_wp (code:=(Tryz.f10.body).getD .skip) (N:=42) (results:=[.tmp 6]) (by kernel_rfl) (no _ (by rfl)) rfl rfl ?_;simp only [Tryz.f10,Option.getD_some])
  (repeat first|simp only [ww]|((with_reducible first|apply xs|apply xI);(·simp +decide only [go_sem,hi];rfl);with_reducible first|apply xT|apply xF|(·kernel_rfl)))
  (first|with_reducible apply fq_r|with_reducible apply fq_n);(·simp +decide only [go_sem]<;>rfl);(·simp +decide only [go_sem]<;>rfl)
 obtain ⟨a,rfl⟩:∃ a:Nat,i = a:=⟨i.toNat,by omega⟩
 by_cases ha:rows.length ≤ a
 ·have e:atB rows a k = false:=by
   simp only [atB,Int.toNat_natCast];rw [List.getElem?_eq_none ha];simp
  rw [e]
  have h2:(rows.length:Int) ≤ a:=by omega
  (refine sem_wp (code:=(Tryz.f10.body).getD .skip) (N:=42) (results:=[.tmp 6]) (by kernel_rfl) (no _ (by rfl)) rfl rfl ?_;simp only [Tryz.f10,Option.getD_some])
  (repeat first|simp only [ww]|((with_reducible first|apply xs|apply xI);(·simp +decide only [go_sem,hi,h2];rfl);with_reducible first|apply xT|apply xF|(·kernel_rfl)))
  (first|with_reducible apply fq_r|with_reducible apply fq_n);(·simp +decide only [go_sem]<;>rfl);(·simp +decide only [go_sem]<;>rfl)
 obtain ⟨r,hr⟩:∃ r,rows[a]? = some r:=⟨_,List.getElem?_eq_getElem (by omega)⟩
 have h2:¬ (rows.length:Int) ≤ a:=by omega
 by_cases hk0:k < 0
 ·have e:atB rows a k = false:=by simp [atB];omega
  rw [e]
  (refine sem_wp (code:=(Tryz.f10.body).getD .skip) (N:=42) (results:=[.tmp 6]) (by kernel_rfl) (no _ (by rfl)) rfl rfl ?_;simp only [Tryz.f10,Option.getD_some])
  (repeat first|simp only [ww]|((with_reducible first|apply xs|apply xI);(·simp +decide only [go_sem,hi,h2,hk0];rfl);with_reducible first|apply xT|apply xF|(·kernel_rfl)))
  (first|with_reducible apply fq_r|with_reducible apply fq_n);(·simp +decide only [go_sem]<;>rfl);(·simp +decide only [go_sem]<;>rfl)
 obtain ⟨n,rfl⟩:∃ n:Nat,k = n:=⟨k.toNat,by omega⟩
 have hq:IntKind.i64.wrap ((n / 64:Nat):Int) = ((n / 64:Nat):Int):=w64 (by omega) (by omega)
 by_cases hw:r.2.length ≤ n / 64
 ·have e:atB rows a n = false:=by
   simp only [atB,Int.toNat_natCast,hr];rw [List.getElem?_eq_none hw];simp
  rw [e]
  have h3:(r.2.length:Int) ≤ ((n / 64:Nat):Int):=by omega
  (refine sem_wp (code:=(Tryz.f10.body).getD .skip) (N:=42) (results:=[.tmp 6]) (by kernel_rfl) (no _ (by rfl)) rfl rfl ?_;simp only [Tryz.f10,Option.getD_some])
  (repeat first|simp only [ww]|((with_reducible first|apply xs|apply xI);(·simp +decide only [go_sem,hi,h2,hk0,hr,hq,h3];rfl);with_reducible first|apply xT|apply xF|(·kernel_rfl)))
  (first|with_reducible apply fq_r|with_reducible apply fq_n);(·simp +decide only [go_sem]<;>rfl);(·simp +decide only [go_sem]<;>rfl)
 ·obtain ⟨w,hw'⟩:∃ w,r.2[n / 64]? = some w:=⟨_,List.getElem?_eq_getElem (by omega)⟩
  have e:atB rows a n = w.getLsbD (n % 64):=by
   simp only [atB,Int.toNat_natCast,hr,hw'];simp
  rw [e]
  have h3:¬ (r.2.length:Int) ≤ ((n / 64:Nat):Int):=by omega
  have hm:(n:Int).tmod 64 = ((n % 64:Nat):Int):=rfl
  have hm0:¬ ((n % 64:Nat):Int) < 0:=by omega
  (refine sem_wp (code:=(Tryz.f10.body).getD .skip) (N:=42) (results:=[.tmp 6]) (by kernel_rfl) (no _ (by rfl)) rfl rfl ?_;simp only [Tryz.f10,Option.getD_some])
  (repeat first|simp only [ww]|((with_reducible first|apply xs|apply xI);(·simp +decide only [go_sem,hi,h2,hk0,hr,hq,h3,hw',hm,hm0,bit_and1];rfl);with_reducible first|apply xT|apply xF|(·kernel_rfl)))
  (first|with_reducible apply fq_r|with_reducible apply fq_n);(·simp +decide only [go_sem]<;>rfl);(·simp +decide only [go_sem]<;>rfl)
theorem at_call {d:Bool} (H:Heap) (c:Rep) (rows:List (Rep × List (BitVec 64))) (i k:Int) (hk:k < 9223372036854775808) :
 callV L.env d (sem L.env Mf) (.func (.func 10) [] []) [sl c (rows.map rowE),.int .i64 i,.int .i64 k] H = some (.bool (atB rows i k),H,[]):=
 callV_flat (by kernel_rfl) (by kernel_rfl) rfl (by simp only [go_sem]) (at_ok c rows i k hk) rfl
theorem lives_call {d:Bool} (H:Heap):callV L.env d (sem L.env Mf) (.func (.func 12) [] []) [] H = some (.bool true,H,[]):=
 callV_flat (by kernel_rfl) (by kernel_rfl) rfl rfl lives_sem rfl
/-- A table that Table gives, as At sees it. -/
def tabRows (c:Cir) (ord:List Nat) (l:List Flt) (tests:List Pat):List (Rep × List (BitVec 64)):=(tabOf c ord l tests).map fun r=>(some (some ((tests.length + 63) / 64)),r)
theorem tabRows_enc (c:Cir) (ord:List Nat) (l:List Flt) (tests:List Pat):(tabOf c ord l tests).map (fun r=>[AV.islice (r.map w64R) (some ((tests.length + 63) / 64))]) = (tabRows c ord l tests).map rowE:=by
 unfold tabRows
 rw [List.map_map]
 exact List.map_congr_left fun r _=>by simp only [Function.comp,rowE,sl_some]
theorem tabRows_len (c:Cir) (ord:List Nat) (l:List Flt) (tests:List Pat):(tabRows c ord l tests).length = l.length:=by simp [tabRows,tabOf]
theorem atB_tab (c:Cir) (ord:List Nat) (l:List Flt) (tests:List Pat) (hp:∀ p ∈ tests,PatOk c.nodes p) (i j:Nat) (f:Flt) (hf:l[i]? = some f):atB (tabRows c ord l tests) i j = match tests[j]? with
 | some p=>(simOf c ord).det f p
 | none=>false:=by
 unfold atB
 rw [if_pos ⟨by omega,by omega⟩]
 simp only [Int.toNat_natCast]
 have hr:(tabRows c ord l tests)[i]? = some (some (some ((tests.length + 63) / 64)),(List.range ((tests.length + 63) / 64)).map fun t=>hitW c ord f (chunk tests t)):=by
  unfold tabRows;rw [List.getElem?_map,tab_get hf];rfl
 rw [hr]
 simp only
 by_cases hw:j / 64 < (tests.length + 63) / 64
 ·rw [List.getElem?_map,List.getElem?_range hw]
  simp only [Option.map_some]
  exact row_bit c ord f tests hp j
 ·rw [List.getElem?_eq_none (by simp;omega),List.getElem?_eq_none (by omega)]
open Go.Proofs Go.Ax Go.Pc
set_option maxRecDepth 100000
def pD:Pat:=⟨none,[],none,[]⟩
def patTo (S:Sim) (f:Flt) (ps:List Pat) (i:Nat):List (List AV):=(List.range ps.length).map fun j=>[.bool (if j < i then S.det f (ps.getD j pD) else false)]
theorem patTo_len (S:Sim) (f:Flt) (ps:List Pat) (i:Nat):(patTo S f ps i).length = ps.length:=by simp [patTo]
theorem patTo_zero (S:Sim) (f:Flt) (ps:List Pat):patTo S f ps 0 = List.replicate ps.length [.bool false]:=by
 unfold patTo
 refine (List.map_congr_left (g:=fun _=>[AV.bool false]) (fun j _=>by rw [if_neg (Nat.not_lt_zero _)])).trans ?_
 rw [List.map_const',List.length_range]
theorem patTo_get {S:Sim} {f:Flt} {ps:List Pat} {i j:Nat} (h:j < ps.length):(patTo S f ps i)[j]? = some [.bool (if j < i then S.det f (ps.getD j pD) else false)]:=by
 unfold patTo;rw [List.getElem?_map,List.getElem?_range h];rfl
theorem patTo_succ {S:Sim} {f:Flt} {ps:List Pat} {i:Nat} {p:Pat} (h:ps[i]? = some p):(patTo S f ps i).set i [.bool (S.det f p)] = patTo S f ps (i + 1):=by
 have hi:=(List.getElem?_eq_some_iff.1 h).1
 have hD:ps.getD i pD = p:=by rw [List.getD_eq_getElem?_getD,h];rfl
 apply List.ext_getElem?
 intro j
 rw [List.getElem?_set,patTo_len]
 by_cases hj:j < ps.length
 ·rw [patTo_get hj,patTo_get hj]
  by_cases hij:i = j
  ·subst hij;rw [if_pos rfl,if_pos hi,if_pos (by omega),hD]
  ·rw [if_neg hij]
   by_cases h2:j < i
   ·rw [if_pos h2,if_pos (by omega)]
   ·rw [if_neg h2,if_neg (by omega)]
 ·have e:∀ i,(patTo S f ps i)[j]? = none:=fun i=>List.getElem?_eq_none (by rw [patTo_len];omega)
  rw [e,e,if_neg (by omega)]
theorem patTo_all {S:Sim} {f:Flt} {ps:List Pat}:patTo S f ps ps.length = ps.map fun p=>[.bool (S.det f p)]:=by
 unfold patTo
 apply List.ext_getElem?
 intro j
 rw [List.getElem?_map,List.getElem?_map]
 cases hj:ps[j]? with
 | none=>rw [List.getElem?_eq_none (by have:=List.getElem?_eq_none_iff.1 hj;simpa using this)];rfl
 | some f=>
  have hjl:=(List.getElem?_eq_some_iff.1 hj).1
  have hD:ps.getD j pD = f:=by rw [List.getD_eq_getElem?_getD,hj];rfl
  rw [List.getElem?_range hjl]
  simp only [Option.map_some]
  rw [if_pos hjl,hD]
theorem flat_pat (S:Sim) (f:Flt) (ps:List Pat) (i:Nat):FlatR (patTo S f ps i):=FlatR.map fun _=>rfl
theorem clipB_ok (n:Nat) (rows:List (List AV)) (hf:FlatR rows):sem L.env Mf 21 [.slice 0 0 n (some n)] [some (.row 1 rows)] = some (.slice 0 0 n (some n),[some (.row 1 rows)]):=by
 have h1:=fun π=>renR_flat π hf
 (refine sem_wp (code:=(Tryz.f21.body).getD .skip) (N:=9) (results:=[.tmp 2]) (by kernel_rfl) (no _ (by rfl)) rfl rfl ?_;simp only [Tryz.f21,Option.getD_some])
 (repeat first|simp only [ww]|((with_reducible first|apply xs|apply xI);(·simp +decide only [go_sem];rfl);with_reducible first|apply xT|apply xF|(·kernel_rfl)))
 (first|with_reducible apply fq_r|with_reducible apply fq_n);(·simp +decide only [go_sem,h1]<;>rfl);(·simp +decide only [go_sem,h1]<;>rfl)
theorem clipB_call {d:Bool} {H:Heap} {b n:Nat} {rows:List (List AV)} (hf:FlatR rows) (hb:HeapF H b = some (.row 1 rows)):callV L.env d (sem L.env Mf) (.func (.func 21) [] []) [.slice b 0 n (some n)] H = some (.slice b 0 n (some n),H,[b]):=by
 have h:=callV_one' (E:=L.env) (draw:=d) (call:=sem L.env Mf) (g:=21) (fs:=[]) (cs:=[]) (ar:=[.slice b 0 n (some n)]) (H:=H) (b:=b) (by kernel_rfl) (by kernel_rfl) rfl hb (refsO_flat hf) (FlatO.row hf) rfl (args':=[AV.slice 0 0 n (some n)]) (by simp only [List.nil_append,List.append_nil,List.map_cons,List.map_nil,ren_slice1]) (clipB_ok n rows hf) (FlatO.row hf) (back_slice1 b 0 _ n _)
 rw [set_same hb] at h
 exact h
set_option maxHeartbeats 4000000 in
theorem ppats_ok (c:Cir) (h:c.wf) (rt:Rep) (f:Flt) (tests:List Pat) (htl:tests.length ≤ 4096) (hf:FltOk c.nodes f) (hp:∀ p ∈ tests,PatOk c.nodes p) (ord:List Nat) (hop:ord.Perm (List.range c.nodes.length))
 (hst:∀ (d:Bool) (H:Heap),callV L.env d (sem L.env Mf) (.func (.func 18) [] []) [.agg c.enc] H = some (.agg (engE c ord net0V pin0V),H,[])) :
 sem L.env Mf 9 [.agg c.enc,.agg f.enc,sl rt (tests.map Pat.enc)] [] = some (.tuple [.islice (tests.map fun p=>[.bool ((simOf c ord).det f p)]) (some tests.length),.int .i64 0],[]):=by
 have hnl:=h.len
 have htb:=fun (X Y:Option AObj)=>callV_one (E:=L.env) (draw:=false) (call:=sem L.env Mf) (g:=8) (fs:=[]) (cs:=[]) (ar:=[.agg c.enc,.slice 2 0 1 (some 1),sl rt (tests.map Pat.enc)]) (H:=[X,Y,some (.row 5 ([f].map Flt.enc))]) (b:=2) (by kernel_rfl) (by kernel_rfl) rfl rfl (refsO_flat (flat_fR [f])) (FlatO.row (flat_fR [f])) (by simp only [List.nil_append,List.append_nil,refsL_cons,refs_agg,Cir.enc,go_sem]) (args':=[.agg c.enc,.slice 0 0 1 (some 1),sl rt (tests.map Pat.enc)]) (by simp only [List.nil_append,List.append_nil,List.map_cons,List.map_nil,ren_slice1,ren_cir,ren_sl]) (tableB c h rt [f] tests (by simp) htl (by simpa using hf) hp ord hop hst) rfl
 have e1:(tabOf c ord [f] tests).map (fun r=>[AV.islice (r.map w64R) (some ((tests.length + 63) / 64))]) = _:=tabRows_enc c ord [f] tests
 rw [e1] at htb
 have hat:=fun (H:Heap) (j:Nat) (hj:j < 100000)=>at_call (d:=false) H (some (some 1)) (tabRows c ord [f] tests) 0 j (by omega)
 have hbt:∀ j:Nat,atB (tabRows c ord [f] tests) 0 j = _:=fun j=>atB_tab c ord [f] tests hp 0 j f rfl
 have hrm:tests.length ≤ 1000000000:=by omega
 generalize hT:(tabRows c ord [f] tests).map rowE = T at htb hat
 simp only [sl_some] at hat
 simp only [Cir.enc] at htb ⊢
 have hfe:[f].map Flt.enc = [[.int .u8 f.model,.int .i64 f.node,.int .i64 f.pin,.int .u8 f.value,.int .i64 f.other]]:=rfl
 rw [hfe] at htb
 have hfe2:f.enc = [.int .u8 f.model,.int .i64 f.node,.int .i64 f.pin,.int .u8 f.value,.int .i64 f.other]:=rfl
 rw [hfe2]
 have hl1:([f]:List Flt).length = 1:=rfl
 rw [hl1] at htb
 (refine sem_wp (code:=(Tryz.f9.body).getD .skip) (N:=40) (results:=[.tmp 6,.tmp 7]) (by kernel_rfl) (no _ (by rfl)) rfl rfl ?_;simp only [Tryz.f9,Option.getD_some])
 (repeat first|simp only [ww]|((with_reducible first|apply xs|apply xI);(·simp +decide only [go_sem,htb,hrm];rfl);with_reducible first|apply xT|apply xF|(·kernel_rfl)))
 refine xp_loop3 (σ:=Nat) kp9_0 (fun i=>[(8,.islice T (some 1)),(10,.slice 0 0 tests.length (some tests.length)),(27,.int .i64 tests.length),(28,.int .i64 i)]) (fun i=>[some (.row 1 (patTo (simOf c ord) f tests i))]) (fun i=>tests.length - i) (fun i=>i ≤ tests.length) 0 ?_ (Nat.zero_le _) ?_
 ·have e0:=patTo_zero (simOf c ord) f tests
  have h1:=refs_flatR (flat_pat (simOf c ord) f tests 0)
  have h2:=fun π=>renR_flat π (flat_pat (simOf c ord) f tests 0)
  rw [← e0]
  generalize hD:patTo (simOf c ord) f tests 0 = D at h1 h2
  try simp only [hD]
  (simp +decide only [go_sem,gcD_eq,gcIds_eq,h1,h2]<;>rfl)<;>rfl
 ·intro i hi
  by_cases hlt:i < tests.length
  ·obtain ⟨p,hpi⟩:∃ p,tests[i]? = some p:=⟨_,List.getElem?_eq_getElem hlt⟩
   have c1:(i:Int) < tests.length:=by omega
   have hwi:=wI1 (n:=i) (by omega)
   have ha:=fun H=>hat H i (by omega)
   have hb:=hbt i
   rw [hpi] at hb
   simp only at hb
   simp only [hb] at ha
   have hsc:=patTo_succ (S:=(simOf c ord)) (f:=f) hpi
   have hdl:=patTo_len (simOf c ord) f tests i
   have hgt:=patTo_get (S:=(simOf c ord)) (f:=f) (i:=i) hlt
   have h1:=refs_flatR (flat_pat (simOf c ord) f tests (i + 1))
   have h2:=fun π=>renR_flat π (flat_pat (simOf c ord) f tests (i + 1))
   generalize (simOf c ord).det f p = bt at ha hsc
   generalize hD2:patTo (simOf c ord) f tests (i + 1) = D2 at h1 h2 hsc
   generalize patTo (simOf c ord) f tests i = D at hdl hgt hsc
   (repeat first|simp only [ww]|((with_reducible first|apply xs|apply xI);(·simp +decide only [go_sem,c1,hlt,hwi,ha,hdl,hgt,hsc];rfl);with_reducible first|apply xT|apply xF|(·kernel_rfl)))
   refine lp_n (i + 1) ?_ (by omega) (by omega)
   simp only [hD2]
   (simp +decide only [go_sem,gcD_eq,gcIds_eq,h1,h2]<;>rfl)<;>rfl
  ·obtain rfl:i = tests.length:=by omega
   have c1:¬ (tests.length:Int) < tests.length:=by omega
   have hfd:=flat_pat (simOf c ord) f tests tests.length
   have hdl:=patTo_len (simOf c ord) f tests tests.length
   rw [patTo_all] at hfd hdl ⊢
   generalize (tests.map fun p=>[AV.bool ((simOf c ord).det f p)]) = D at hfd hdl
   have htk:D.take tests.length = D:=List.take_of_length_le (by omega)
   have hcb:=fun H hb=>clipB_call (d:=false) (H:=H) (b:=0) (n:=tests.length) (rows:=D) hfd hb
   have hcb:=hcb [some (.row 1 D)] rfl
   (repeat first|simp only [ww]|((with_reducible first|apply xs|apply xI);(·simp +decide only [go_sem,c1,hcb];rfl);with_reducible first|apply xT|apply xF|(·kernel_rfl)))
   (first|with_reducible apply fq_r|with_reducible apply fq_n);(·simp +decide only [go_sem,frzR_flat _ _ hfd,hdl,htk]<;>rfl);(·simp +decide only [go_sem,frzR_flat _ _ hfd,hdl,htk]<;>rfl)
end Go.ZInst
