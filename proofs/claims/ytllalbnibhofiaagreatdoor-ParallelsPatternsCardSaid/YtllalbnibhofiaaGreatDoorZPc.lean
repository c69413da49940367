/- Part of a proof. No condition. -/
import Derived.Test.YtllalbnibhofiaaGreatDoorZPb
import Derived.Test.YtllalbnibhofiaaGreatDoorAxF
set_option linter.unusedSimpArgs false
set_option linter.unusedVariables false
namespace Go.ZInst
set_option maxHeartbeats 200000000
open Go.Proofs Go.Ax Go.Pc
set_option maxRecDepth 100000
theorem aij (c:Cir) (ord:List Nat):aab (adp c ord net0V pin0V) = []:=ago _ _ _ _ rfl rfl
/-- The table of faults and patterns: row by row, 64 patterns a word. -/
def ai9 (tests:List Pat) (t:Nat):List Pat:=(tests.drop (64 * t)).take 64
def aja (c:Cir) (ord:List Nat) (l:List Flt) (tests:List Pat):List (List (BitVec 64)):=l.map fun f=>(List.range ((tests.length + 63) / 64)).map fun t=>ajf c ord f (ai9 tests t)
def foT (c:Cir) (ord:List Nat) (l:List Flt) (tests:List Pat) (w t:Nat):List (List (BitVec 64)):=l.map fun f=>(List.range w).map fun k=>if k < t then ajf c ord f (ai9 tests k) else 0#64
theorem agv (c:Cir) (ord:List Nat) (l:List Flt) (tests:List Pat) (w t:Nat):(foT c ord l tests w t).length = l.length:=by simp [foT]
theorem axf (c:Cir) (ord:List Nat) (l:List Flt) (tests:List Pat) (w:Nat):foT c ord l tests w 0 = List.replicate l.length (List.replicate w 0#64):=by
 unfold foT
 have e1:(List.range w).map (fun k=>if k < 0 then (0#64:BitVec 64) else 0#64) = List.replicate w 0#64:=by
  refine (List.map_congr_left (g:=fun _=>0#64) (fun j _=>if_neg (Nat.not_lt_zero _))).trans ?_
  rw [List.map_const',List.length_range]
 refine (List.map_congr_left (g:=fun _=>List.replicate w 0#64) (fun f _=>?_)).trans (by rw [List.map_const'])
 refine (List.map_congr_left (g:=fun _=>0#64) (fun j _=>if_neg (Nat.not_lt_zero _))).trans ?_
 rw [List.map_const',List.length_range]
theorem axh (c:Cir) (ord:List Nat) (l:List Flt) (tests:List Pat):foT c ord l tests ((tests.length + 63) / 64) ((tests.length + 63) / 64) = aja c ord l tests:=by
 unfold foT aja
 refine List.map_congr_left fun f _=>List.map_congr_left fun k hk=>if_pos (by simpa using hk)
theorem axg {c:Cir} {ord:List Nat} {l:List Flt} {tests:List Pat} {w t:Nat} (h:t < w):amh l (fun f=>ajf c ord f (ai9 tests t)) t (foT c ord l tests w t) l.length = foT c ord l tests w (t + 1):=by
 apply List.ext_getElem?
 intro j
 unfold amh foT
 rw [List.getElem?_mapIdx,List.getElem?_map,List.getElem?_map]
 cases hj:l[j]? with
 | none=>rfl
 | some f=>
  have hjl:=(List.getElem?_eq_some_iff.1 hj).1
  simp only [Option.map_some,if_pos hjl]
  congr 1
  apply List.ext_getElem?
  intro k
  rw [List.getElem?_set]
  have hgd:l.getD j ⟨0,0,0,0,0⟩ = f:=by rw [List.getD_eq_getElem?_getD,hj];rfl
  by_cases htk:t = k
  ·subst htk
   simp [h,hj]
  ·rw [if_neg htk]
   by_cases hkw:k < w
   ·rw [List.getElem?_map,List.getElem?_map,List.getElem?_range hkw]
    simp only [Option.map_some]
    congr 1
    by_cases h1:k < t
    ·rw [if_pos h1,if_pos (by omega)]
    ·rw [if_neg h1,if_neg (by omega)]
   ·rw [List.getElem?_eq_none (by simp;omega),List.getElem?_eq_none (by simp;omega)]
theorem axu (tests:List Pat) (t:Nat) (h:64 * t < tests.length):(tests.take (min (64 * t + 64) tests.length)).drop (64 * t) = ai9 tests t:=by
 unfold ai9
 rw [List.drop_take]
 by_cases h1:64 * t + 64 ≤ tests.length
 ·rw [Nat.min_eq_left h1,Nat.add_sub_cancel_left]
 ·rw [Nat.min_eq_right (by omega),List.take_of_length_le (by simp),List.take_of_length_le (by simp;omega)]
theorem biq (c:Rep) (rows:List (List AV)) (i j:Nat):∃ rp:Rep,slP c rows i j = sl rp ((rows.take j).drop i):=by
 cases c with
 | some c=>exact ⟨some (c.map (·- i)),by rw [ahm];rfl⟩
 | none=>cases rows with
  | nil=>exact ⟨none,by simp [slP,sl]⟩
  | cons r rs=>exact ⟨some none,by rw [ahm];rfl⟩
theorem aoy {tests:List Pat} {t:Nat} {p:Pat} (h:p ∈ ai9 tests t):p ∈ tests:=List.mem_of_mem_drop (List.mem_of_mem_take h)
theorem aoz (tests:List Pat) (t:Nat):(ai9 tests t).length ≤ 64:=by unfold ai9;simp;omega
theorem awi (π:Nat → Option Nat) (c:Cir) (ord:List Nat):ren π (.agg (adp c ord net0V pin0V)) = .agg (adp c ord net0V pin0V):=abc π _ (by rw [aaw,aij])
theorem awz {i n:Nat} (h:i ≤ n):inB (i:Int) n = true:=by simp [inB];omega
theorem bai {H:aa4} {o:AObj} (h:aa2 H 0 = some o) (hf:FlatO (some o)) (hp:ab9 1 = ab9 1:=rfl):(H.take 1).map (Option.map (aat (ab9 1))) = [some o]:=by
 cases H with
 | nil=>simp [aa2] at h
 | cons x X=>
  have:x = some o:=by simpa [aa2] using h
  subst this
  have:=hf (ab9 1)
  simpa using this
theorem br2 (k k':IntKind) (a b:Int):be8 (.int k a) [.int k' b] = some (.int k (if b < a then b else a)):=by rfl
theorem alc (π:Nat → Option Nat) (k:Nat) (rows:List (List AV)):aat π (.row k rows) = .row k (rows.map fun r=>r.map (ren π)):=by rfl
theorem bvj (c:Cir) (h:c.wf) (rl rt:Rep) (l:List Flt) (tests:List Pat) (hll:l.length ≤ 1000) (htl:tests.length ≤ 4096) (hf:∀ f ∈ l,FltOk c.nodes f) (hp:∀ p ∈ tests,PatOk c.nodes p) (ord:List Nat) (hop:ord.Perm (List.range c.nodes.length))
 (hst:∀ (d:Bool) (H:aa4),aaa L.env d (sem L.env Mf) (.func (.func 18) [] []) [.agg c.enc] H = some (.agg (adp c ord net0V pin0V),H,[])) :
 sem L.env Mf 8 [.agg c.enc,sl rl (l.map Flt.enc),sl rt (tests.map Pat.enc)] [] = some (.tuple [.islice ((aja c ord l tests).map fun r=>[.islice (r.map amc) (some ((tests.length + 63) / 64))]) (some l.length),.int .i64 0],[]):=by
 have hnl:=h.len
 have hll':l.length ≤ 65536:=by omega
 have hck:=fun H=>aa3 (E:=L.env) (draw:=false) (call:=sem L.env Mf) (g:=17) (fs:=[]) (cs:=[]) (ar:=[.agg c.enc,sl rl (l.map Flt.enc),sl rt (tests.map Pat.enc)]) (H:=H) (by kernel_rfl) (by kernel_rfl) rfl (by simp only [List.nil_append,List.append_nil,aa7,aaw,Cir.enc,go_sem]) (bl0 c h rl rt l tests hll' htl hf hp) rfl
 have hrm:l.length ≤ 1000000000:=by omega
 have hw1:IntKind.i64.wrap ((tests.length:Int) + 64) = ((tests.length + 64:Nat):Int):=by rw [w64 (by omega) (by omega)];omega
 have hw2:IntKind.i64.wrap (((tests.length + 64:Nat):Int) - 1) = ((tests.length + 63:Nat):Int):=by rw [w64 (by omega) (by omega)];omega
 have hw3:=wI (n:=(tests.length + 63) / 64) (by omega)
 have hrw:(tests.length + 63) / 64 ≤ 1000000000:=by omega
 have hst1:=fun H=>hst false H
 obtain ⟨r0,e3⟩:=ac3 (kinds c.nodes 0)
 obtain ⟨r1,e4⟩:=ac3 (kinds c.nodes 14)
 suffices hs:∃ r:AV × aa4,(r = (.tuple [.islice ((aja c ord l tests).map fun r=>[.islice (r.map amc) (some ((tests.length + 63) / 64))]) (some l.length),.int .i64 0],[])) ∧ sem L.env Mf 8 [.agg c.enc,sl rl (l.map Flt.enc),sl rt (tests.map Pat.enc)] [] = some r by
  obtain ⟨r,rfl,h3⟩:=hs
  exact h3
 have hEe:adp c ord net0V pin0V = [sl c.nc (c.nodes.map Nd.enc),sl c.mc (c.names.map abv),.nilslice,sl c.oc (c.outs.map aaj),.islice (ord.map aaj) (some c.nodes.length),sl r0 ((kinds c.nodes 0).map aaj),sl r1 ((kinds c.nodes 14).map aaj),net0V,pin0V]:=by unfold adp;rw [e3,e4]
 rw [hEe] at hst1
 have hor:∀ n ∈ ord,n < c.nodes.length:=fun n hn=>by have:=hop.mem_iff.1 hn;simpa using this
 have hol:ord.length ≤ 1000:=by rw [hop.length_eq];simp;omega
 have hs0:net0V.storable = true:=rfl
 have hs1:pin0V.storable = true:=rfl
 simp only [Cir.enc] at hck hst1 ⊢
 have hhead0:∀ (F:Frm) (H2:aa4) (i cb a b:Nat) (ids:Nat → Nat),i ≤ l.length → aba [1,2,3,9,24,25] F = [(1,sl rl (l.map Flt.enc)),(2,sl rt (tests.map Pat.enc)),(3,.ptr cb 0 0),(9,.ptr a 0 0),(24,.int .i64 l.length),(25,.int .i64 (i:Nat))] →
  Tb0 H2 a b ids ((tests.length + 63) / 64) l.length i → aa2 H2 cb = some (.row 4 [[sl c.nc (c.nodes.map Nd.enc),sl c.mc (c.names.map abv),.nilslice,sl c.oc (c.outs.map aaj)]]) → 0 ≤ H2.length →
  ∃ F1 H1,gcD 0 [1,2,3,9,24,25] F H2 = some (F1,H1) ∧ (fun N F H1=>∃ (i cb a b:Nat) (ids:Nat → Nat),N = l.length - i ∧ i ≤ l.length ∧ F = [(1,sl rl (l.map Flt.enc)),(2,sl rt (tests.map Pat.enc)),(3,.ptr cb 0 0),(9,.ptr a 0 0),(24,.int .i64 l.length),(25,.int .i64 (i:Nat))] ∧ Tb0 H1 a b ids ((tests.length + 63) / 64) l.length i ∧ aa2 H1 cb = some (.row 4 [[sl c.nc (c.nodes.map Nd.enc),sl c.mc (c.names.map abv),.nilslice,sl c.oc (c.outs.map aaj)]]) ∧ 0 ≤ H1.length) (l.length - i) F1 H1:=by
  intro F H2 i cb a b ids hi hkF ht hcb hmm
  have hrefs:aab ((aba [1,2,3,9,24,25] F).map (·.2)) = [cb,a]:=by rw [hkF];simp only [List.map_cons,List.map_nil,aa7,abf,ac2,agn,ad3,ahp,List.append_nil,List.nil_append,List.cons_append]
  have hcbf:aas (aa2 H2 cb) = []:=by rw [hcb];simp only [go_sem]
  have hcost:=ht.cost
  refine ax3 hmm (cb :: Tb0.blocks a b ids i) ?_ ?_ ?_ ?_ (by rw [hrefs];simp) ?_
  ·rw [hrefs];intro x hx;simp only [List.mem_cons,List.not_mem_nil,or_false] at hx ⊢
   rcases hx with rfl|rfl
   ·exact .inl rfl
   ·exact .inr (Tb0.mem_blocks.2 (.inl rfl))
  ·intro x hx
   omega
  ·intro x hx y hy
   simp only [List.mem_cons] at hx ⊢
   rcases hx with rfl|hx
   ·rw [hcbf] at hy;simp at hy
   ·exact .inr (ht.closed hi x hx y hy)
  ·simp only [List.map_cons,List.sum_cons,hcbf,List.length_nil];omega
  ·intro R π H1 hg hl1
   have hRa:=hg.refs a (by rw [hrefs];simp)
   have hRc:=hg.refs cb (by rw [hrefs];simp)
   obtain ⟨a',b',ids',ea,ht'⟩:=ht.mv hi hg.mv hRa
   obtain ⟨cb',ec⟩:=hg.here cb hRc
   refine ⟨i,cb',a',b',ids',rfl,hi,?_,ht',?_,hl1⟩
   ·rw [hkF]
    simp +decide only [go_sem,ea,ec]
   ·rw [hg.heap _ _ ec,hcb];simp only [go_sem,Option.map_some,alc]
 have hhead2:∀ (F:Frm) (H2:aa4) (t eb a b q:Nat) (ids:Nat → Nat),t ≤ ((tests.length + 63) / 64) → aba [1,2,9,11,12] F = [(1,sl rl (l.map Flt.enc)),(2,sl rt (tests.map Pat.enc)),(9,.ptr a 0 0),(11,.ptr eb 0 0),(12,.ptr q 0 0)] →
  Tbl H2 a b q ids ((tests.length + 63) / 64) (foT c ord l tests ((tests.length + 63) / 64) t) ((64 * t:Nat):Int) → aa2 H2 eb = some (.row 9 [adp c ord net0V pin0V]) → 0 ≤ H2.length →
  ∃ F1 H1,gcD 0 [1,2,9,11,12] F H2 = some (F1,H1) ∧ (fun N F H1=>∃ (t eb a b q:Nat) (ids:Nat → Nat),N = ((tests.length + 63) / 64) - t ∧ t ≤ ((tests.length + 63) / 64) ∧ F = [(1,sl rl (l.map Flt.enc)),(2,sl rt (tests.map Pat.enc)),(9,.ptr a 0 0),(11,.ptr eb 0 0),(12,.ptr q 0 0)] ∧ Tbl H1 a b q ids ((tests.length + 63) / 64) (foT c ord l tests ((tests.length + 63) / 64) t) ((64 * t:Nat):Int) ∧ aa2 H1 eb = some (.row 9 [adp c ord net0V pin0V]) ∧ 0 ≤ H1.length) (((tests.length + 63) / 64) - t) F1 H1:=by
  intro F H2 t eb a b q ids hi hkF ht heb hmm
  have hrefs:aab ((aba [1,2,9,11,12] F).map (·.2)) = [a,eb,q]:=by rw [hkF];simp only [List.map_cons,List.map_nil,aa7,abf,ac2,agn,ad3,ahp,List.append_nil,List.nil_append,List.cons_append]
  have hxR:FlatR [adp c ord net0V pin0V]:=FlatR.cons (aij c ord) FlatR.nil
  have hebf:aas (aa2 H2 eb) = []:=by rw [heb];exact aad hxR
  have hcost:=ht.cost
  have hfl:=agv c ord l tests ((tests.length + 63) / 64) t
  refine ax3 hmm (eb :: Tbl.blocks a b q ids (foT c ord l tests ((tests.length + 63) / 64) t).length) ?_ ?_ ?_ ?_ (by rw [hrefs];simp) ?_
  ·rw [hrefs];intro x hx;simp only [List.mem_cons,List.not_mem_nil,or_false] at hx ⊢
   rcases hx with rfl|rfl|rfl
   ·exact .inr (Tbl.mem_blocks.2 (.inl rfl))
   ·exact .inl rfl
   ·exact .inr (Tbl.mem_blocks.2 (.inr (.inr (.inl rfl))))
  ·intro x hx
   omega
  ·intro x hx y hy
   simp only [List.mem_cons] at hx ⊢
   rcases hx with rfl|hx
   ·rw [hebf] at hy;simp at hy
   ·exact .inr (ht.closed x hx y hy)
  ·simp only [List.map_cons,List.sum_cons,hebf,List.length_nil];omega
  ·intro R π H1 hg hl1
   have hRa:=hg.refs a (by rw [hrefs];simp)
   have hRe:=hg.refs eb (by rw [hrefs];simp)
   have hRq:=hg.refs q (by rw [hrefs];simp)
   obtain ⟨a',b',q',ids',ea,_,eq,_,ht'⟩:=ht.mv hg.mv hRa hRq
   obtain ⟨eb',ee⟩:=hg.here eb hRe
   refine ⟨t,eb',a',b',q',ids',rfl,hi,?_,ht',?_,hl1⟩
   ·rw [hkF]
    simp +decide only [go_sem,ea,ee,eq]
   ·rw [hg.heap _ _ ee,heb];exact FlatO.row hxR _
 (refine svE Tryz.f8 ?_;simp only [Tryz.f8,gS])
 (repeat first|simp only [ww]|(apply xa;simp +decide only [go_sem,hck,hrm];rfl;kernel_rfl))
 refine acx kp8_0 (fun N F H1=>∃ (i cb a b:Nat) (ids:Nat → Nat),N = l.length - i ∧ i ≤ l.length ∧ F = [(1,sl rl (l.map Flt.enc)),(2,sl rt (tests.map Pat.enc)),(3,.ptr cb 0 0),(9,.ptr a 0 0),(24,.int .i64 l.length),(25,.int .i64 (i:Nat))] ∧ Tb0 H1 a b ids ((tests.length + 63) / 64) l.length i ∧ aa2 H1 cb = some (.row 4 [[sl c.nc (c.nodes.map Nd.enc),sl c.mc (c.names.map abv),.nilslice,sl c.oc (c.outs.map aaj)]]) ∧ 0 ≤ H1.length) (l.length - 0) ?_ ?_
 ·refine hhead0 _ _ 0 0 2 1 (fun _=>0) (Nat.zero_le _) (by simp +decide only [go_sem,aba]<;>rfl) ⟨rfl,?_,fun j hj=>by omega,by omega,fun j k hj=>by omega⟩ rfl (by simp)
  show some (AObj.row 1 (List.replicate l.length [AV.nilslice])) = _
  have e0:(List.range l.length).map (fun j=>if j < 0 then [AV.slice 0 0 ((tests.length + 63) / 64) (some ((tests.length + 63) / 64))] else [AV.nilslice]) = List.replicate l.length [AV.nilslice]:=by
   refine (List.map_congr_left (g:=fun _=>[AV.nilslice]) (fun j _=>if_neg (Nat.not_lt_zero _))).trans ?_
   rw [List.map_const',List.length_range]
  rw [e0]
 ·rintro N F H1 ⟨i,cb,a,b,ids,rfl,hi,rfl,ht,hcb,hlen⟩
  have hout:=ht.out
  have htop:=ht.top
  have hw0:=wI (n:=i) (by omega)
  have hw1':=wI (n:=i + 1) (by omega)
  by_cases hlt:i < l.length
  ·have hadd:=ht.add hlt
   have hbl:=aac htop
   have hal:=aac hout
   have c1:(i:Int) < l.length:=by omega
   have hwi:=wI1 (n:=i) (by omega)
   have htop':∀ L,aa2 (H1 ++ L) b = _:=fun L=>(ada (eq_true hbl)).trans htop
   have hget:((List.range l.length).map fun j=>if j < i then [AV.slice (ids j) 0 ((tests.length + 63) / 64) (some ((tests.length + 63) / 64))] else [.nilslice])[i]? = some [.nilslice]:=by rw [List.getElem?_map,List.getElem?_range hlt];simp
   have hb1:b < H1.length + 1:=by omega
   have hcl:=aac hcb
   have hcbb:cb ≠ b:=by intro e;rw [e,htop] at hcb;cases hcb
   (repeat first|simp only [ww]|((with_reducible first|apply xs3|apply xI);(·simp +decide only [go_sem,hget,hb1,awf,htop',hout,htop,hlt,hw1,hw2,hw3,hrw,c1,hwi,hbl,hal,List.length_map,List.length_range];rfl);first|with_reducible apply xT|with_reducible apply xF|(·repeat' (first|exact amx|exact amo|refine akf ?_ ?_|refine amn (by simp only [List.length_cons,List.length_nil];decide +kernel) ?_|refine amp (akw (by simp<;>omega) (by simp<;>omega) (by simp<;>omega)) ?_))))
   refine ab8 (l.length - (i + 1)) (by omega) ?_
   exact hhead0 _ _ (i + 1) cb a b _ hlt (by simp +decide only [go_sem,aba]<;>rfl) hadd (by rw [ads hcl,if_neg (Ne.symm hcbb)];exact hcb) (by simp)
  ·obtain rfl:i = l.length:=by omega
   have c1:¬ (l.length:Int) < l.length:=by omega
   (repeat first|simp only [ww]|(apply xa;simp +decide only [go_sem,c1,hcb,hst1,ad0,afm,ajm,apw,aga,amw,List.append_assoc,List.cons_append,List.nil_append,hs0,hs1];rfl;kernel_rfl))
   refine acx kp8_2 (fun N F H1=>∃ (t eb a b q:Nat) (ids:Nat → Nat),N = ((tests.length + 63) / 64) - t ∧ t ≤ ((tests.length + 63) / 64) ∧ F = [(1,sl rl (l.map Flt.enc)),(2,sl rt (tests.map Pat.enc)),(9,.ptr a 0 0),(11,.ptr eb 0 0),(12,.ptr q 0 0)] ∧ Tbl H1 a b q ids ((tests.length + 63) / 64) (foT c ord l tests ((tests.length + 63) / 64) t) ((64 * t:Nat):Int) ∧ aa2 H1 eb = some (.row 9 [adp c ord net0V pin0V]) ∧ 0 ≤ H1.length) (((tests.length + 63) / 64) - 0) ?_ ?_
   ·have hdone:=ht.lt
    refine hhead2 _ _ 0 H1.length a b (H1.length + 1) ids (Nat.zero_le _) (by simp +decide only [go_sem,aba]<;>rfl) ?_ (by rw [ad0,hEe];rfl) (by simp)
    rw [axf]
    exact ht.more.done (by rw [afm];rfl) (by omega) (by omega) (fun j hj=>by have:=hdone.2.2 j hj;omega)
   ·rintro N F H1 ⟨t,eb,a,b,q,ids,rfl,hi,rfl,ht,heb,hlen⟩
    have hout:=ht.out
    have hfrm:=ht.frm
    have hb0:=aac ht.top
    have hal:=aac hout
    have hw64:IntKind.i64.wrap (((64 * t:Nat):Int) + 64) = ((64 * (t + 1):Nat):Int):=by rw [w64 (by omega) (by omega)];omega
    by_cases hlt:64 * t < tests.length
    ·have c1:((64 * t:Nat):Int) < tests.length:=by omega
     have heb':=heb
     rw [hEe] at heb'
     obtain ⟨rp,hrp⟩:=biq rt (tests.map Pat.enc) (64 * t) (min (64 * t + 64) tests.length)
     rw [← List.map_take,← List.map_drop,axu tests t hlt] at hrp
     have hmn:(if (tests.length:Int) < ((64 * (t + 1):Nat):Int) then (tests.length:Int) else ((64 * (t + 1):Nat):Int)) = ((min (64 * t + 64) tests.length:Nat):Int):=by split<;>omega
     have hi1:inB ((min (64 * t + 64) tests.length:Nat):Int) tests.length = true:=awz (by omega)
     have hi2:inB ((64 * t:Nat):Int) (min (64 * t + 64) tests.length) = true:=awz (by omega)
     have hal1:(tests.map Pat.enc).all (fun r=>decide (r.length = 2)) = true:=by simp [Pat.enc]
     obtain ⟨H2,σ,hcb,ht2,hl2,hout2⟩:=bdr (E:=L.env) (d:=true) (call:=sem L.env Mf) (g:=19) (H:=H1) (by kernel_rfl) (by kernel_rfl) (fun y z=>[.agg (adp c ord net0V pin0V),sl rl (l.map Flt.enc),sl rp ((ai9 tests t).map Pat.enc),ajz y z])
      (by intro y z;simp only [ajz,aa7,abf,ac2,ak9,agn,ad3,aaw,aij,List.append_nil,List.nil_append,List.cons_append])
      (by intro π y z y' z' e1 e2;simp only [ajz,List.map_cons,List.map_nil,ak8,arb,bb4,asw,asy,awi,e1,e2]) ht (by rw [agv];omega) (fo':=foT c ord l tests ((tests.length + 63) / 64) (t + 1)) (by rw [agv,agv]) (by
      intro H0 a' b' q' ids' hT
      have hrw:=bte c h ord hor hol rl rp l (ai9 tests t) hf (fun p hp'=>hp p (aoy hp')) (aoz tests t) H0 a' b' q' ids' ((tests.length + 63) / 64) (foT c ord l tests ((tests.length + 63) / 64) t) (64 * t) hT (agv c ord l tests ((tests.length + 63) / 64) t) hll (by omega) (by omega)
      rw [show 64 * t / 64 = t by omega,axg (by omega)] at hrw
      exact hrw)
     unfold ajz at hcb
     rw [hEe] at hcb
     have hfrm2:=ht2.frm
     have hnq:=ht2.newq ((64 * (t + 1):Nat):Int)
     have hel:=aac heb
     (repeat first|simp only [ww]|((with_reducible first|apply xs3|apply xI);(·simp +decide only [go_sem,hout,hfrm,hfrm2,c1,heb',hw64,hrp,hmn,hi1,hi2,hal1,hcb,br2,ad0,ajm,aga];rfl);first|with_reducible apply xT|with_reducible apply xF|(·repeat' (first|exact amx|exact amo|refine akf ?_ ?_|refine amn (by simp only [List.length_cons,List.length_nil];decide +kernel) ?_|refine amp (akw (by simp<;>omega) (by simp<;>omega) (by simp<;>omega)) ?_))))
     refine ab8 (((tests.length + 63) / 64) - (t + 1)) (by omega) ?_
     exact hhead2 _ _ (t + 1) eb a b H2.length ids (by omega) (by simp +decide only [go_sem,aba]<;>rfl) hnq (by rw [ada (eq_true (by omega))];exact (hout2 eb (ht.other heb (by omega))).trans heb) (by simp)
    ·have c1:¬ ((64 * t:Nat):Int) < tests.length:=by omega
     obtain rfl:t = ((tests.length + 63) / 64):=by omega
     rw [axh] at ht
     have htl:(aja c ord l tests).length = l.length:=by simp [aja]
     have hout9:=ht.out
     rw [htl] at hout9
     have hz:=ht.frz (m:=0) (Nat.zero_le _) (fun j _=>Nat.zero_le _)
     rw [htl] at hz
     (repeat first|simp only [ww]|(apply xa;simp +decide only [go_sem,hout9,hfrm,c1];rfl;kernel_rfl))
     refine acs (vs:=[.slice b 0 l.length (some l.length),.int .i64 0]) (r:=(_,_)) (by simp +decide only [go_sem]) ?_ rfl
     show aby false 0 (.tuple [.slice b 0 l.length (some l.length),.int .i64 0]) H1 = _
     rw [agf,aoe,agc,hz,agc,an2]
     simp only [aan,bcx]
     rfl
theorem bp5 (c:Cir) (h:c.wf) (rt:Rep) (l:List Flt) (tests:List Pat) (hll:l.length ≤ 1000) (htl:tests.length ≤ 4096) (hf:∀ f ∈ l,FltOk c.nodes f) (hp:∀ p ∈ tests,PatOk c.nodes p) (ord:List Nat) (hop:ord.Perm (List.range c.nodes.length))
 (hst:∀ (d:Bool) (H:aa4),aaa L.env d (sem L.env Mf) (.func (.func 18) [] []) [.agg c.enc] H = some (.agg (adp c ord net0V pin0V),H,[])) :
 sem L.env Mf 8 [.agg c.enc,.slice 0 0 l.length (some l.length),sl rt (tests.map Pat.enc)] [some (.row 5 (l.map Flt.enc))] = some (.tuple [.islice ((aja c ord l tests).map fun r=>[.islice (r.map amc) (some ((tests.length + 63) / 64))]) (some l.length),.int .i64 0],[some (.row 5 (l.map Flt.enc))]):=by
 have hnl:=h.len
 have hll':l.length ≤ 65536:=by omega
 have hck:=fun X=>aca (E:=L.env) (draw:=false) (call:=sem L.env Mf) (g:=17) (fs:=[]) (cs:=[]) (ar:=[.agg c.enc,.slice 0 0 l.length (some l.length),sl rt (tests.map Pat.enc)]) (H:=some (.row 5 (l.map Flt.enc)) :: X) (b:=0) (by kernel_rfl) (by kernel_rfl) rfl rfl (aad (acp l)) (FlatO.row (acp l)) (by simp only [List.nil_append,List.append_nil,aa7,aaw,Cir.enc,go_sem]) (args':=[.agg c.enc,.slice 0 0 l.length (some l.length),sl rt (tests.map Pat.enc)]) (by simp only [List.nil_append,List.append_nil,List.map_cons,List.map_nil,ac0,av5,ak8]) (bkz c h rt l tests hll' htl hf hp) rfl
 have hrm:l.length ≤ 1000000000:=by omega
 have hw1:IntKind.i64.wrap ((tests.length:Int) + 64) = ((tests.length + 64:Nat):Int):=by rw [w64 (by omega) (by omega)];omega
 have hw2:IntKind.i64.wrap (((tests.length + 64:Nat):Int) - 1) = ((tests.length + 63:Nat):Int):=by rw [w64 (by omega) (by omega)];omega
 have hw3:=wI (n:=(tests.length + 63) / 64) (by omega)
 have hrw:(tests.length + 63) / 64 ≤ 1000000000:=by omega
 have hst1:=fun H=>hst false H
 obtain ⟨r0,e3⟩:=ac3 (kinds c.nodes 0)
 obtain ⟨r1,e4⟩:=ac3 (kinds c.nodes 14)
 suffices hs:∃ r:AV × aa4,(r = (.tuple [.islice ((aja c ord l tests).map fun r=>[.islice (r.map amc) (some ((tests.length + 63) / 64))]) (some l.length),.int .i64 0],[some (.row 5 (l.map Flt.enc))])) ∧ sem L.env Mf 8 [.agg c.enc,.slice 0 0 l.length (some l.length),sl rt (tests.map Pat.enc)] [some (.row 5 (l.map Flt.enc))] = some r by
  obtain ⟨r,rfl,h3⟩:=hs
  exact h3
 have hEe:adp c ord net0V pin0V = [sl c.nc (c.nodes.map Nd.enc),sl c.mc (c.names.map abv),.nilslice,sl c.oc (c.outs.map aaj),.islice (ord.map aaj) (some c.nodes.length),sl r0 ((kinds c.nodes 0).map aaj),sl r1 ((kinds c.nodes 14).map aaj),net0V,pin0V]:=by unfold adp;rw [e3,e4]
 rw [hEe] at hst1
 have hor:∀ n ∈ ord,n < c.nodes.length:=fun n hn=>by have:=hop.mem_iff.1 hn;simpa using this
 have hol:ord.length ≤ 1000:=by rw [hop.length_eq];simp;omega
 have hs0:net0V.storable = true:=rfl
 have hs1:pin0V.storable = true:=rfl
 simp only [Cir.enc] at hck hst1 ⊢
 have hhead0:∀ (F:Frm) (H2:aa4) (i cb a b:Nat) (ids:Nat → Nat),i ≤ l.length → aba [1,2,3,9,24,25] F = [(1,.slice 0 0 l.length (some l.length)),(2,sl rt (tests.map Pat.enc)),(3,.ptr cb 0 0),(9,.ptr a 0 0),(24,.int .i64 l.length),(25,.int .i64 (i:Nat))] →
  Tb0 H2 a b ids ((tests.length + 63) / 64) l.length i → aa2 H2 cb = some (.row 4 [[sl c.nc (c.nodes.map Nd.enc),sl c.mc (c.names.map abv),.nilslice,sl c.oc (c.outs.map aaj)]]) → 1 ≤ H2.length → aa2 H2 0 = some (.row 5 (l.map Flt.enc)) →
  ∃ F1 H1,gcD 1 [1,2,3,9,24,25] F H2 = some (F1,H1) ∧ (fun N F H1=>∃ (i cb a b:Nat) (ids:Nat → Nat),N = l.length - i ∧ i ≤ l.length ∧ F = [(1,.slice 0 0 l.length (some l.length)),(2,sl rt (tests.map Pat.enc)),(3,.ptr cb 0 0),(9,.ptr a 0 0),(24,.int .i64 l.length),(25,.int .i64 (i:Nat))] ∧ Tb0 H1 a b ids ((tests.length + 63) / 64) l.length i ∧ aa2 H1 cb = some (.row 4 [[sl c.nc (c.nodes.map Nd.enc),sl c.mc (c.names.map abv),.nilslice,sl c.oc (c.outs.map aaj)]]) ∧ 1 ≤ H1.length ∧ aa2 H1 0 = some (.row 5 (l.map Flt.enc))) (l.length - i) F1 H1:=by
  intro F H2 i cb a b ids hi hkF ht hcb hmm hlb
  have hrefs:aab ((aba [1,2,3,9,24,25] F).map (·.2)) = [0,cb,a]:=by rw [hkF];simp only [List.map_cons,List.map_nil,aa7,abf,ac2,agn,ad3,ahp,List.append_nil,List.nil_append,List.cons_append]
  have hcbf:aas (aa2 H2 cb) = []:=by rw [hcb];simp only [go_sem]
  have hcost:=ht.cost
  refine ax3 hmm (0 :: cb :: Tb0.blocks a b ids i) ?_ ?_ ?_ ?_ (by rw [hrefs];simp) ?_
  ·rw [hrefs];intro x hx;simp only [List.mem_cons,List.not_mem_nil,or_false] at hx ⊢
   rcases hx with rfl|rfl|rfl
   ·exact .inl rfl
   ·exact .inr (.inl rfl)
   ·exact .inr (.inr (Tb0.mem_blocks.2 (.inl rfl)))
  ·intro x hx
   obtain rfl:x = 0:=by omega
   rw [hlb];exact aad (acp l)
  ·intro x hx y hy
   simp only [List.mem_cons] at hx ⊢
   rcases hx with rfl|rfl|hx
   ·rw [hlb,aad (acp l)] at hy;simp at hy
   ·rw [hcbf] at hy;simp at hy
   ·exact .inr (.inr (ht.closed hi x hx y hy))
  ·simp only [List.map_cons,List.sum_cons,hcbf,List.length_nil,hlb,aad (acp l)];omega
  ·intro R π H1 hg hl1
   have hRa:=hg.refs a (by rw [hrefs];simp)
   have hRc:=hg.refs cb (by rw [hrefs];simp)
   obtain ⟨a',b',ids',ea,ht'⟩:=ht.mv hi hg.mv hRa
   obtain ⟨cb',ec⟩:=hg.here cb hRc
   refine ⟨i,cb',a',b',ids',rfl,hi,?_,ht',?_,hl1,?_⟩
   ·rw [hkF]
    have h0:=hg.low 0 (by omega)
    simp +decide only [go_sem,ea,ec,h0]
   ·rw [hg.heap _ _ ec,hcb];simp only [go_sem,Option.map_some,alc]
   ·rw [hg.heap _ _ (hg.low 0 (by omega)),hlb];exact FlatO.row (acp l) _
 have hhead2:∀ (F:Frm) (H2:aa4) (t eb a b q:Nat) (ids:Nat → Nat),t ≤ ((tests.length + 63) / 64) → aba [1,2,9,11,12] F = [(1,.slice 0 0 l.length (some l.length)),(2,sl rt (tests.map Pat.enc)),(9,.ptr a 0 0),(11,.ptr eb 0 0),(12,.ptr q 0 0)] →
  Tbl H2 a b q ids ((tests.length + 63) / 64) (foT c ord l tests ((tests.length + 63) / 64) t) ((64 * t:Nat):Int) → aa2 H2 eb = some (.row 9 [adp c ord net0V pin0V]) → 1 ≤ H2.length → aa2 H2 0 = some (.row 5 (l.map Flt.enc)) →
  ∃ F1 H1,gcD 1 [1,2,9,11,12] F H2 = some (F1,H1) ∧ (fun N F H1=>∃ (t eb a b q:Nat) (ids:Nat → Nat),N = ((tests.length + 63) / 64) - t ∧ t ≤ ((tests.length + 63) / 64) ∧ F = [(1,.slice 0 0 l.length (some l.length)),(2,sl rt (tests.map Pat.enc)),(9,.ptr a 0 0),(11,.ptr eb 0 0),(12,.ptr q 0 0)] ∧ Tbl H1 a b q ids ((tests.length + 63) / 64) (foT c ord l tests ((tests.length + 63) / 64) t) ((64 * t:Nat):Int) ∧ aa2 H1 eb = some (.row 9 [adp c ord net0V pin0V]) ∧ 1 ≤ H1.length ∧ aa2 H1 0 = some (.row 5 (l.map Flt.enc))) (((tests.length + 63) / 64) - t) F1 H1:=by
  intro F H2 t eb a b q ids hi hkF ht heb hmm hlb
  have hrefs:aab ((aba [1,2,9,11,12] F).map (·.2)) = [0,a,eb,q]:=by rw [hkF];simp only [List.map_cons,List.map_nil,aa7,abf,ac2,agn,ad3,ahp,List.append_nil,List.nil_append,List.cons_append]
  have hxR:FlatR [adp c ord net0V pin0V]:=FlatR.cons (aij c ord) FlatR.nil
  have hebf:aas (aa2 H2 eb) = []:=by rw [heb];exact aad hxR
  have hcost:=ht.cost
  have hfl:=agv c ord l tests ((tests.length + 63) / 64) t
  refine ax3 hmm (0 :: eb :: Tbl.blocks a b q ids (foT c ord l tests ((tests.length + 63) / 64) t).length) ?_ ?_ ?_ ?_ (by rw [hrefs];simp) ?_
  ·rw [hrefs];intro x hx;simp only [List.mem_cons,List.not_mem_nil,or_false] at hx ⊢
   rcases hx with rfl|rfl|rfl|rfl
   ·exact .inl rfl
   ·exact .inr (.inr (Tbl.mem_blocks.2 (.inl rfl)))
   ·exact .inr (.inl rfl)
   ·exact .inr (.inr (Tbl.mem_blocks.2 (.inr (.inr (.inl rfl)))))
  ·intro x hx
   obtain rfl:x = 0:=by omega
   rw [hlb];exact aad (acp l)
  ·intro x hx y hy
   simp only [List.mem_cons] at hx ⊢
   rcases hx with rfl|rfl|hx
   ·rw [hlb,aad (acp l)] at hy;simp at hy
   ·rw [hebf] at hy;simp at hy
   ·exact .inr (.inr (ht.closed x hx y hy))
  ·simp only [List.map_cons,List.sum_cons,hebf,List.length_nil,hlb,aad (acp l)];omega
  ·intro R π H1 hg hl1
   have hRa:=hg.refs a (by rw [hrefs];simp)
   have hRe:=hg.refs eb (by rw [hrefs];simp)
   have hRq:=hg.refs q (by rw [hrefs];simp)
   obtain ⟨a',b',q',ids',ea,_,eq,_,ht'⟩:=ht.mv hg.mv hRa hRq
   obtain ⟨eb',ee⟩:=hg.here eb hRe
   refine ⟨t,eb',a',b',q',ids',rfl,hi,?_,ht',?_,hl1,?_⟩
   ·rw [hkF]
    have h0:=hg.low 0 (by omega)
    simp +decide only [go_sem,ea,ee,eq,h0]
   ·rw [hg.heap _ _ ee,heb];exact FlatO.row hxR _
   ·rw [hg.heap _ _ (hg.low 0 (by omega)),hlb];exact FlatO.row (acp l) _
 (refine svE Tryz.f8 ?_;simp only [Tryz.f8,gS])
 (repeat first|simp only [ww]|(apply xa;simp +decide only [go_sem,hck,hrm];rfl;kernel_rfl))
 refine acx kp8_0 (fun N F H1=>∃ (i cb a b:Nat) (ids:Nat → Nat),N = l.length - i ∧ i ≤ l.length ∧ F = [(1,.slice 0 0 l.length (some l.length)),(2,sl rt (tests.map Pat.enc)),(3,.ptr cb 0 0),(9,.ptr a 0 0),(24,.int .i64 l.length),(25,.int .i64 (i:Nat))] ∧ Tb0 H1 a b ids ((tests.length + 63) / 64) l.length i ∧ aa2 H1 cb = some (.row 4 [[sl c.nc (c.nodes.map Nd.enc),sl c.mc (c.names.map abv),.nilslice,sl c.oc (c.outs.map aaj)]]) ∧ 1 ≤ H1.length ∧ aa2 H1 0 = some (.row 5 (l.map Flt.enc))) (l.length - 0) ?_ ?_
 ·refine hhead0 _ _ 0 1 3 2 (fun _=>0) (Nat.zero_le _) (by simp +decide only [go_sem,aba]<;>rfl) ⟨rfl,?_,fun j hj=>by omega,by omega,fun j k hj=>by omega⟩ rfl (by simp) rfl
  show some (AObj.row 1 (List.replicate l.length [AV.nilslice])) = _
  have e0:(List.range l.length).map (fun j=>if j < 0 then [AV.slice 0 0 ((tests.length + 63) / 64) (some ((tests.length + 63) / 64))] else [AV.nilslice]) = List.replicate l.length [AV.nilslice]:=by
   refine (List.map_congr_left (g:=fun _=>[AV.nilslice]) (fun j _=>if_neg (Nat.not_lt_zero _))).trans ?_
   rw [List.map_const',List.length_range]
  rw [e0]
 ·rintro N F H1 ⟨i,cb,a,b,ids,rfl,hi,rfl,ht,hcb,hlen,hlb⟩
  have hout:=ht.out
  have htop:=ht.top
  have hw0:=wI (n:=i) (by omega)
  have hw1':=wI (n:=i + 1) (by omega)
  by_cases hlt:i < l.length
  ·have hadd:=ht.add hlt
   have hbl:=aac htop
   have hal:=aac hout
   have c1:(i:Int) < l.length:=by omega
   have hwi:=wI1 (n:=i) (by omega)
   have htop':∀ L,aa2 (H1 ++ L) b = _:=fun L=>(ada (eq_true hbl)).trans htop
   have hget:((List.range l.length).map fun j=>if j < i then [AV.slice (ids j) 0 ((tests.length + 63) / 64) (some ((tests.length + 63) / 64))] else [.nilslice])[i]? = some [.nilslice]:=by rw [List.getElem?_map,List.getElem?_range hlt];simp
   have hb1:b < H1.length + 1:=by omega
   have hcl:=aac hcb
   have hb0:b ≠ 0:=by intro e;rw [← e,htop] at hlb;cases hlb
   have hcbb:cb ≠ b:=by intro e;rw [e,htop] at hcb;cases hcb
   (repeat first|simp only [ww]|((with_reducible first|apply xs3|apply xI);(·simp +decide only [go_sem,hget,hb1,awf,htop',hout,htop,hlt,hw1,hw2,hw3,hrw,c1,hwi,hbl,hal,List.length_map,List.length_range];rfl);first|with_reducible apply xT|with_reducible apply xF|(·repeat' (first|exact amx|exact amo|refine akf ?_ ?_|refine amn (by simp only [List.length_cons,List.length_nil];decide +kernel) ?_|refine amp (akw (by simp<;>omega) (by simp<;>omega) (by simp<;>omega)) ?_))))
   refine ab8 (l.length - (i + 1)) (by omega) ?_
   exact hhead0 _ _ (i + 1) cb a b _ hlt (by simp +decide only [go_sem,aba]<;>rfl) hadd (by rw [ads hcl,if_neg (Ne.symm hcbb)];exact hcb) (by simp) (by rw [ads (by omega),if_neg hb0];exact hlb)
  ·obtain rfl:i = l.length:=by omega
   have c1:¬ (l.length:Int) < l.length:=by omega
   (repeat first|simp only [ww]|(apply xa;simp +decide only [go_sem,c1,hcb,hst1,ad0,afm,ajm,apw,aga,amw,List.append_assoc,List.cons_append,List.nil_append,hs0,hs1];rfl;kernel_rfl))
   refine acx kp8_2 (fun N F H1=>∃ (t eb a b q:Nat) (ids:Nat → Nat),N = ((tests.length + 63) / 64) - t ∧ t ≤ ((tests.length + 63) / 64) ∧ F = [(1,.slice 0 0 l.length (some l.length)),(2,sl rt (tests.map Pat.enc)),(9,.ptr a 0 0),(11,.ptr eb 0 0),(12,.ptr q 0 0)] ∧ Tbl H1 a b q ids ((tests.length + 63) / 64) (foT c ord l tests ((tests.length + 63) / 64) t) ((64 * t:Nat):Int) ∧ aa2 H1 eb = some (.row 9 [adp c ord net0V pin0V]) ∧ 1 ≤ H1.length ∧ aa2 H1 0 = some (.row 5 (l.map Flt.enc))) (((tests.length + 63) / 64) - 0) ?_ ?_
   ·have hdone:=ht.lt
    refine hhead2 _ _ 0 H1.length a b (H1.length + 1) ids (Nat.zero_le _) (by simp +decide only [go_sem,aba]<;>rfl) ?_ (by rw [ad0,hEe];rfl) (by simp) (by rw [ada (eq_true (by omega))];exact hlb)
    rw [axf]
    exact ht.more.done (by rw [afm];rfl) (by omega) (by omega) (fun j hj=>by have:=hdone.2.2 j hj;omega)
   ·rintro N F H1 ⟨t,eb,a,b,q,ids,rfl,hi,rfl,ht,heb,hlen,hlb⟩
    have hout:=ht.out
    have hfrm:=ht.frm
    have hb0:=aac ht.top
    have hal:=aac hout
    have hw64:IntKind.i64.wrap (((64 * t:Nat):Int) + 64) = ((64 * (t + 1):Nat):Int):=by rw [w64 (by omega) (by omega)];omega
    by_cases hlt:64 * t < tests.length
    ·have c1:((64 * t:Nat):Int) < tests.length:=by omega
     have heb':=heb
     rw [hEe] at heb'
     obtain ⟨rp,hrp⟩:=biq rt (tests.map Pat.enc) (64 * t) (min (64 * t + 64) tests.length)
     rw [← List.map_take,← List.map_drop,axu tests t hlt] at hrp
     have hmn:(if (tests.length:Int) < ((64 * (t + 1):Nat):Int) then (tests.length:Int) else ((64 * (t + 1):Nat):Int)) = ((min (64 * t + 64) tests.length:Nat):Int):=by split<;>omega
     have hi1:inB ((min (64 * t + 64) tests.length:Nat):Int) tests.length = true:=awz (by omega)
     have hi2:inB ((64 * t:Nat):Int) (min (64 * t + 64) tests.length) = true:=awz (by omega)
     have hal1:(tests.map Pat.enc).all (fun r=>decide (r.length = 2)) = true:=by simp [Pat.enc]
     obtain ⟨H2,σ,hcb,ht2,hl2,hlb2,hout2⟩:=bdq (E:=L.env) (d:=true) (call:=sem L.env Mf) (g:=19) (H:=H1) (by kernel_rfl) (by kernel_rfl) (fun x y z=>[.agg (adp c ord net0V pin0V),.slice x 0 l.length (some l.length),sl rp ((ai9 tests t).map Pat.enc),ajz y z])
      (by intro x y z;simp only [ajz,aa7,abf,ac2,ak9,agn,ad3,aaw,aij,List.append_nil,List.nil_append,List.cons_append])
      (by intro π x y z x' y' z' e0 e1 e2;simp only [ajz,List.map_cons,List.map_nil,ak8,arb,bb4,asw,asy,awi,e1,e2,e0]) ht hlb (aad (acp l)) (FlatO.row (acp l)) (ht.other hlb (by omega)) (by rw [agv];omega) (fo':=foT c ord l tests ((tests.length + 63) / 64) (t + 1)) (by rw [agv,agv]) (by
      intro H0 l' a' b' q' ids' hT hlb' hln' hll'
      have hrw:=btd c h ord hor hol l' rp l (ai9 tests t) hf (fun p hp'=>hp p (aoy hp')) (aoz tests t) H0 a' b' q' ids' ((tests.length + 63) / 64) (foT c ord l tests ((tests.length + 63) / 64) t) (64 * t) hT (agv c ord l tests ((tests.length + 63) / 64) t) hll (by omega) (by omega) hlb' hln' hll'
      rw [show 64 * t / 64 = t by omega,axg (by omega)] at hrw
      exact hrw)
     unfold ajz at hcb
     rw [hEe] at hcb
     have hfrm2:=ht2.frm
     have hnq:=ht2.newq ((64 * (t + 1):Nat):Int)
     have hel:=aac heb
     (repeat first|simp only [ww]|((with_reducible first|apply xs3|apply xI);(·simp +decide only [go_sem,hout,hfrm,hfrm2,c1,heb',hw64,hrp,hmn,hi1,hi2,hal1,hcb,br2,ad0,ajm,aga];rfl);first|with_reducible apply xT|with_reducible apply xF|(·repeat' (first|exact amx|exact amo|refine akf ?_ ?_|refine amn (by simp only [List.length_cons,List.length_nil];decide +kernel) ?_|refine amp (akw (by simp<;>omega) (by simp<;>omega) (by simp<;>omega)) ?_))))
     refine ab8 (((tests.length + 63) / 64) - (t + 1)) (by omega) ?_
     exact hhead2 _ _ (t + 1) eb a b H2.length ids (by omega) (by simp +decide only [go_sem,aba]<;>rfl) hnq (by rw [ada (eq_true (by omega))];exact (hout2 eb (ht.other heb (by omega)) (by intro e;rw [e,hlb] at heb;cases heb)).trans heb) (by simp) (by rw [ada (eq_true (by omega))];exact hlb2)
    ·have c1:¬ ((64 * t:Nat):Int) < tests.length:=by omega
     obtain rfl:t = ((tests.length + 63) / 64):=by omega
     rw [axh] at ht
     have htl:(aja c ord l tests).length = l.length:=by simp [aja]
     have hout9:=ht.out
     rw [htl] at hout9
     have hne0:∀ x k rows,aa2 H1 x = some (.row k rows) → k ≠ 5 → 1 ≤ x:=by intro x k rows hx hk;exact (Nat.eq_zero_or_pos x).elim (fun h0=>by rw [h0,hlb] at hx;cases hx;exact absurd rfl hk) id
     have hz:=ht.frz (m:=1) (hne0 _ _ _ ht.top (by omega)) (fun j hj=>by obtain ⟨f,hf'⟩:∃ f,(aja c ord l tests)[j]? = some f:=⟨_,List.getElem?_eq_getElem hj⟩;exact hne0 _ _ _ (ht.sub j f hf').1 (by omega))
     rw [htl] at hz
     (repeat first|simp only [ww]|(apply xa;simp +decide only [go_sem,hout9,hfrm,c1];rfl;kernel_rfl))
     refine acs (vs:=[.slice b 0 l.length (some l.length),.int .i64 0]) (r:=(_,_)) (by simp +decide only [go_sem]) ?_ rfl
     show aby false 1 (.tuple [.slice b 0 l.length (some l.length),.int .i64 0]) H1 = _
     rw [agf,aoe,agc,hz,agc,an2]
     simp only [aan,bcx]
     rw [bai hlb (FlatO.row (acp l))]
end Go.ZInst
