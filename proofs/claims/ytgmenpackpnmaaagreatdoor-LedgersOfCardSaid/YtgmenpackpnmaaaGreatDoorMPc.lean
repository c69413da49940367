/- Part of a proof. No condition. -/
import Derived.Test.YtgmenpackpnmaaaGreatDoorMPb
import Derived.Test.YtgmenpackpnmaaaGreatDoorAxF
set_option linter.unusedSimpArgs false
set_option linter.unusedVariables false
namespace Go.MInst
set_option maxHeartbeats 200000000
open Go.Proofs Go.Ax Go.Pc
set_option maxRecDepth 100000
theorem b2r (c:Cir) (ord:List Nat):a0e (a58 c ord net0V pin0V) = []:=a7h _ _ _ _ rfl rfl
def a3s (tests:List Pat) (t:Nat):List Pat:=(tests.drop (64 * t)).take 64
def b4k (c:Cir) (ord:List Nat) (l:List Flt) (tests:List Pat):List (List (BitVec 64)):=l.map fun f=>(List.range ((tests.length + 63) / 64)).map fun t=>b4p c ord f (a3s tests t)
def foT (c:Cir) (ord:List Nat) (l:List Flt) (tests:List Pat) (w t:Nat):List (List (BitVec 64)):=l.map fun f=>(List.range w).map fun k=>if k < t then b4p c ord f (a3s tests k) else 0#64
theorem b3r (c:Cir) (ord:List Nat) (l:List Flt) (tests:List Pat) (w t:Nat):(foT c ord l tests w t).length = l.length:=by simp [foT]
theorem d3q (c:Cir) (ord:List Nat) (l:List Flt) (tests:List Pat) (w:Nat):foT c ord l tests w 0 = List.replicate l.length (List.replicate w 0#64):=by
 unfold foT
 have e1:(List.range w).map (fun k=>if k < 0 then (0#64:BitVec 64) else 0#64) = List.replicate w 0#64:=by
  refine (List.map_congr_left (g:=fun _=>0#64) (fun j _=>if_neg (Nat.not_lt_zero _))).trans ?_
  rw [List.map_const',List.length_range]
 refine (List.map_congr_left (g:=fun _=>List.replicate w 0#64) (fun f _=>?_)).trans (by rw [List.map_const'])
 refine (List.map_congr_left (g:=fun _=>0#64) (fun j _=>if_neg (Nat.not_lt_zero _))).trans ?_
 rw [List.map_const',List.length_range]
theorem d3s (c:Cir) (ord:List Nat) (l:List Flt) (tests:List Pat):foT c ord l tests ((tests.length + 63) / 64) ((tests.length + 63) / 64) = b4k c ord l tests:=by
 unfold foT b4k
 refine List.map_congr_left fun f _=>List.map_congr_left fun k hk=>if_pos (by simpa using hk)
theorem d3r {c:Cir} {ord:List Nat} {l:List Flt} {tests:List Pat} {w t:Nat} (h:t < w):b83 l (fun f=>b4p c ord f (a3s tests t)) t (foT c ord l tests w t) l.length = foT c ord l tests w (t + 1):=by
 apply List.ext_getElem?
 intro j
 unfold b83 foT
 rw [List.getElem?_mapIdx,List.getElem?_map,List.getElem?_map]
 cases hj:l[j]? with
 | none=>rfl
 | some f=>
  have hjl:=(List.getElem?_eq_some_iff.1 hj).1
  simp only [Option.map_some,if_pos hjl]
  congr 1
  apply List.ext_getElem?
  intro k
  rw [List.getElem?_set]
  have hgd:l.getD j ⟨0,0,0,0,0⟩ = f:=by rw [List.getD_eq_getElem?_getD,hj];rfl
  by_cases htk:t = k
  ·subst htk
   simp [h,hj]
  ·rw [if_neg htk]
   by_cases hkw:k < w
   ·rw [List.getElem?_map,List.getElem?_map,List.getElem?_range hkw]
    simp only [Option.map_some]
    congr 1
    by_cases h1:k < t
    ·rw [if_pos h1,if_pos (by omega)]
    ·rw [if_neg h1,if_neg (by omega)]
   ·rw [List.getElem?_eq_none (by simp;omega),List.getElem?_eq_none (by simp;omega)]
theorem b7n (tests:List Pat) (t:Nat) (h:64 * t < tests.length):(tests.take (min (64 * t + 64) tests.length)).drop (64 * t) = a3s tests t:=by
 unfold a3s
 rw [List.drop_take]
 by_cases h1:64 * t + 64 ≤ tests.length
 ·rw [Nat.min_eq_left h1,Nat.add_sub_cancel_left]
 ·rw [Nat.min_eq_right (by omega),List.take_of_length_le (by simp),List.take_of_length_le (by simp;omega)]
theorem c6o (c:Rep) (rows:List (List AV)) (i j:Nat):∃ rp:Rep,slP c rows i j = sl rp ((rows.take j).drop i):=by
 cases c with
 | some c=>exact ⟨some (c.map (·- i)),by rw [a6j];rfl⟩
 | none=>cases rows with
  | nil=>exact ⟨none,by simp [slP,sl]⟩
  | cons r rs=>exact ⟨some none,by rw [a6j];rfl⟩
theorem a8j {tests:List Pat} {t:Nat} {p:Pat} (h:p ∈ a3s tests t):p ∈ tests:=List.mem_of_mem_drop (List.mem_of_mem_take h)
theorem a7a (tests:List Pat) (t:Nat):(a3s tests t).length ≤ 64:=by unfold a3s;simp;omega
theorem d25 (π:Nat → Option Nat) (c:Cir) (ord:List Nat):ren π (.agg (a58 c ord net0V pin0V)) = .agg (a58 c ord net0V pin0V):=a1a π _ (by rw [a0y,b2r])
theorem b5m {i n:Nat} (h:i ≤ n):inB (i:Int) n = true:=by simp [inB];omega
theorem e0b (k k':IntKind) (a b:Int):d0l (.int k a) [.int k' b] = some (.int k (if b < a then b else a)):=by rfl
theorem b59 (π:Nat → Option Nat) (k:Nat) (rows:List (List AV)):a0v π (.row k rows) = .row k (rows.map fun r=>r.map (ren π)):=by rfl
theorem e2a (c:Cir) (h:c.wf) (rl rt:Rep) (l:List Flt) (tests:List Pat) (hll:l.length ≤ 1000) (htl:tests.length ≤ 4096) (hf:∀ f ∈ l,FltOk c.nodes f) (hp:∀ p ∈ tests,PatOk c.nodes p) (ord:List Nat) (hop:ord.Perm (List.range c.nodes.length))
 (hst:∀ (d:Bool) (H:a05),a0c L.env d (sem L.env Mf) (.func (.func 51) [] []) [.agg c.enc] H = some (.agg (a58 c ord net0V pin0V),H,[])) :
 sem L.env Mf 31 [.agg c.enc,sl rl (l.map Flt.enc),sl rt (tests.map Pat.enc)] [] = some (.tuple [.islice ((b4k c ord l tests).map fun r=>[.islice (r.map b4i) (some ((tests.length + 63) / 64))]) (some l.length),.int .i64 0],[]):=by
 have hnl:=h.len
 have hll':l.length ≤ 65536:=by omega
 have hck:=fun H=>a03 (E:=L.env) (draw:=false) (call:=sem L.env Mf) (g:=50) (fs:=[]) (cs:=[]) (ar:=[.agg c.enc,sl rl (l.map Flt.enc),sl rt (tests.map Pat.enc)]) (H:=H) (by kernel_rfl) (by kernel_rfl) rfl (by simp only [List.nil_append,List.append_nil,a09,a0y,Cir.enc,go_sem]) (d83 c h rl rt l tests hll' htl hf hp) rfl
 have hrm:l.length ≤ 1000000000:=by omega
 have hw1:IntKind.i64.wrap ((tests.length:Int) + 64) = ((tests.length + 64:Nat):Int):=by rw [w64 (by omega) (by omega)];omega
 have hw2:IntKind.i64.wrap (((tests.length + 64:Nat):Int) - 1) = ((tests.length + 63:Nat):Int):=by rw [w64 (by omega) (by omega)];omega
 have hw3:=wI (n:=(tests.length + 63) / 64) (by omega)
 have hrw:(tests.length + 63) / 64 ≤ 1000000000:=by omega
 have hst1:=fun H=>hst false H
 obtain ⟨r0,e3⟩:=a2g (kinds c.nodes 0)
 obtain ⟨r1,e4⟩:=a2g (kinds c.nodes 14)
 suffices hs:∃ r:AV × a05,(r = (.tuple [.islice ((b4k c ord l tests).map fun r=>[.islice (r.map b4i) (some ((tests.length + 63) / 64))]) (some l.length),.int .i64 0],[])) ∧ sem L.env Mf 31 [.agg c.enc,sl rl (l.map Flt.enc),sl rt (tests.map Pat.enc)] [] = some r by
  obtain ⟨r,rfl,h3⟩:=hs
  exact h3
 have hEe:a58 c ord net0V pin0V = [sl c.nc (c.nodes.map Nd.enc),sl c.mc (c.names.map a1r),.nilslice,sl c.oc (c.outs.map a0d),.islice (ord.map a0d) (some c.nodes.length),sl r0 ((kinds c.nodes 0).map a0d),sl r1 ((kinds c.nodes 14).map a0d),net0V,pin0V]:=by unfold a58;rw [e3,e4]
 rw [hEe] at hst1
 have hor:∀ n ∈ ord,n < c.nodes.length:=fun n hn=>by have:=hop.mem_iff.1 hn;simpa using this
 have hol:ord.length ≤ 1000:=by rw [hop.length_eq];simp;omega
 have hs0:net0V.storable = true:=rfl
 have hs1:pin0V.storable = true:=rfl
 simp only [Cir.enc] at hck hst1 ⊢
 have hhead0:∀ (F:Frm) (H2:a05) (i cb a b:Nat) (ids:Nat → Nat),i ≤ l.length → a1q [1,2,3,9,24,25] F = [(1,sl rl (l.map Flt.enc)),(2,sl rt (tests.map Pat.enc)),(3,.ptr cb 0 0),(9,.ptr a 0 0),(24,.int .i64 l.length),(25,.int .i64 (i:Nat))] →
  Tb0 H2 a b ids ((tests.length + 63) / 64) l.length i → a02 H2 cb = some (.row 4 [[sl c.nc (c.nodes.map Nd.enc),sl c.mc (c.names.map a1r),.nilslice,sl c.oc (c.outs.map a0d)]]) → 0 ≤ H2.length →
  ∃ F1 H1,gcD 0 [1,2,3,9,24,25] F H2 = some (F1,H1) ∧ (fun N F H1=>∃ (i cb a b:Nat) (ids:Nat → Nat),N = l.length - i ∧ i ≤ l.length ∧ F = [(1,sl rl (l.map Flt.enc)),(2,sl rt (tests.map Pat.enc)),(3,.ptr cb 0 0),(9,.ptr a 0 0),(24,.int .i64 l.length),(25,.int .i64 (i:Nat))] ∧ Tb0 H1 a b ids ((tests.length + 63) / 64) l.length i ∧ a02 H1 cb = some (.row 4 [[sl c.nc (c.nodes.map Nd.enc),sl c.mc (c.names.map a1r),.nilslice,sl c.oc (c.outs.map a0d)]]) ∧ 0 ≤ H1.length) (l.length - i) F1 H1:=by
  intro F H2 i cb a b ids hi hkF ht hcb hmm
  have hrefs:a0e ((a1q [1,2,3,9,24,25] F).map (·.2)) = [cb,a]:=by rw [hkF];simp only [List.map_cons,List.map_nil,a09,a1u,a2f,b22,a5o,b23,List.append_nil,List.nil_append,List.cons_append]
  have hcbf:a0w (a02 H2 cb) = []:=by rw [hcb];simp only [go_sem]
  have hcost:=ht.cost
  refine d5x hmm (cb :: Tb0.blocks a b ids i) ?_ ?_ ?_ ?_ (by rw [hrefs];simp) ?_
  ·rw [hrefs];intro x hx;simp only [List.mem_cons,List.not_mem_nil,or_false] at hx ⊢
   rcases hx with rfl|rfl
   ·exact .inl rfl
   ·exact .inr (Tb0.mem_blocks.2 (.inl rfl))
  ·intro x hx
   omega
  ·intro x hx y hy
   simp only [List.mem_cons] at hx ⊢
   rcases hx with rfl|hx
   ·rw [hcbf] at hy;simp at hy
   ·exact .inr (ht.closed hi x hx y hy)
  ·simp only [List.map_cons,List.sum_cons,hcbf,List.length_nil];omega
  ·intro R π H1 hg hl1
   have hRa:=hg.refs a (by rw [hrefs];simp)
   have hRc:=hg.refs cb (by rw [hrefs];simp)
   obtain ⟨a',b',ids',ea,ht'⟩:=ht.mv hi hg.mv hRa
   obtain ⟨cb',ec⟩:=hg.here cb hRc
   refine ⟨i,cb',a',b',ids',rfl,hi,?_,ht',?_,hl1⟩
   ·rw [hkF]
    simp +decide only [go_sem,ea,ec]
   ·rw [hg.heap _ _ ec,hcb];simp only [go_sem,Option.map_some,b59]
 have hhead2:∀ (F:Frm) (H2:a05) (t eb a b q:Nat) (ids:Nat → Nat),t ≤ ((tests.length + 63) / 64) → a1q [1,2,9,11,12] F = [(1,sl rl (l.map Flt.enc)),(2,sl rt (tests.map Pat.enc)),(9,.ptr a 0 0),(11,.ptr eb 0 0),(12,.ptr q 0 0)] →
  Tbl H2 a b q ids ((tests.length + 63) / 64) (foT c ord l tests ((tests.length + 63) / 64) t) ((64 * t:Nat):Int) → a02 H2 eb = some (.row 9 [a58 c ord net0V pin0V]) → 0 ≤ H2.length →
  ∃ F1 H1,gcD 0 [1,2,9,11,12] F H2 = some (F1,H1) ∧ (fun N F H1=>∃ (t eb a b q:Nat) (ids:Nat → Nat),N = ((tests.length + 63) / 64) - t ∧ t ≤ ((tests.length + 63) / 64) ∧ F = [(1,sl rl (l.map Flt.enc)),(2,sl rt (tests.map Pat.enc)),(9,.ptr a 0 0),(11,.ptr eb 0 0),(12,.ptr q 0 0)] ∧ Tbl H1 a b q ids ((tests.length + 63) / 64) (foT c ord l tests ((tests.length + 63) / 64) t) ((64 * t:Nat):Int) ∧ a02 H1 eb = some (.row 9 [a58 c ord net0V pin0V]) ∧ 0 ≤ H1.length) (((tests.length + 63) / 64) - t) F1 H1:=by
  intro F H2 t eb a b q ids hi hkF ht heb hmm
  have hrefs:a0e ((a1q [1,2,9,11,12] F).map (·.2)) = [a,eb,q]:=by rw [hkF];simp only [List.map_cons,List.map_nil,a09,a1u,a2f,b22,a5o,b23,List.append_nil,List.nil_append,List.cons_append]
  have hxR:FlatR [a58 c ord net0V pin0V]:=FlatR.cons (b2r c ord) FlatR.nil
  have hebf:a0w (a02 H2 eb) = []:=by rw [heb];exact a0u hxR
  have hcost:=ht.cost
  have hfl:=b3r c ord l tests ((tests.length + 63) / 64) t
  refine d5x hmm (eb :: Tbl.blocks a b q ids (foT c ord l tests ((tests.length + 63) / 64) t).length) ?_ ?_ ?_ ?_ (by rw [hrefs];simp) ?_
  ·rw [hrefs];intro x hx;simp only [List.mem_cons,List.not_mem_nil,or_false] at hx ⊢
   rcases hx with rfl|rfl|rfl
   ·exact .inr (Tbl.mem_blocks.2 (.inl rfl))
   ·exact .inl rfl
   ·exact .inr (Tbl.mem_blocks.2 (.inr (.inr (.inl rfl))))
  ·intro x hx
   omega
  ·intro x hx y hy
   simp only [List.mem_cons] at hx ⊢
   rcases hx with rfl|hx
   ·rw [hebf] at hy;simp at hy
   ·exact .inr (ht.closed x hx y hy)
  ·simp only [List.map_cons,List.sum_cons,hebf,List.length_nil];omega
  ·intro R π H1 hg hl1
   have hRa:=hg.refs a (by rw [hrefs];simp)
   have hRe:=hg.refs eb (by rw [hrefs];simp)
   have hRq:=hg.refs q (by rw [hrefs];simp)
   obtain ⟨a',b',q',ids',ea,_,eq,_,ht'⟩:=ht.mv hg.mv hRa hRq
   obtain ⟨eb',ee⟩:=hg.here eb hRe
   refine ⟨t,eb',a',b',q',ids',rfl,hi,?_,ht',?_,hl1⟩
   ·rw [hkF]
    simp +decide only [go_sem,ea,ee,eq]
   ·rw [hg.heap _ _ ee,heb];exact FlatO.row hxR _
 (refine svE Tryz.f31 ?_;simp only [Tryz.f31,gS])
 (repeat first|simp only [ww]|(apply xa;simp +decide only [go_sem,hck,hrm];rfl;kernel_rfl))
 refine a30 kp31_0 (fun N F H1=>∃ (i cb a b:Nat) (ids:Nat → Nat),N = l.length - i ∧ i ≤ l.length ∧ F = [(1,sl rl (l.map Flt.enc)),(2,sl rt (tests.map Pat.enc)),(3,.ptr cb 0 0),(9,.ptr a 0 0),(24,.int .i64 l.length),(25,.int .i64 (i:Nat))] ∧ Tb0 H1 a b ids ((tests.length + 63) / 64) l.length i ∧ a02 H1 cb = some (.row 4 [[sl c.nc (c.nodes.map Nd.enc),sl c.mc (c.names.map a1r),.nilslice,sl c.oc (c.outs.map a0d)]]) ∧ 0 ≤ H1.length) (l.length - 0) ?_ ?_
 ·refine hhead0 _ _ 0 0 2 1 (fun _=>0) (Nat.zero_le _) (by simp +decide only [go_sem,a1q]<;>rfl) ⟨rfl,?_,fun j hj=>by omega,by omega,fun j k hj=>by omega⟩ rfl (by simp)
  show some (AObj.row 1 (List.replicate l.length [AV.nilslice])) = _
  have e0:(List.range l.length).map (fun j=>if j < 0 then [AV.slice 0 0 ((tests.length + 63) / 64) (some ((tests.length + 63) / 64))] else [AV.nilslice]) = List.replicate l.length [AV.nilslice]:=by
   refine (List.map_congr_left (g:=fun _=>[AV.nilslice]) (fun j _=>if_neg (Nat.not_lt_zero _))).trans ?_
   rw [List.map_const',List.length_range]
  rw [e0]
 ·rintro N F H1 ⟨i,cb,a,b,ids,rfl,hi,rfl,ht,hcb,hlen⟩
  have hout:=ht.out
  have htop:=ht.top
  have hw0:=wI (n:=i) (by omega)
  have hw1':=wI (n:=i + 1) (by omega)
  by_cases hlt:i < l.length
  ·have hadd:=ht.add hlt
   have hbl:=a0m htop
   have hal:=a0m hout
   have c1:(i:Int) < l.length:=by omega
   have hwi:=wI1 (n:=i) (by omega)
   have htop':∀ L,a02 (H1 ++ L) b = _:=fun L=>(a5j (eq_true hbl)).trans htop
   have hget:((List.range l.length).map fun j=>if j < i then [AV.slice (ids j) 0 ((tests.length + 63) / 64) (some ((tests.length + 63) / 64))] else [.nilslice])[i]? = some [.nilslice]:=by rw [List.getElem?_map,List.getElem?_range hlt];simp
   have hb1:b < H1.length + 1:=by omega
   have hcl:=a0m hcb
   have hcbb:cb ≠ b:=by intro e;rw [e,htop] at hcb;cases hcb
   (repeat first|simp only [ww]|((with_reducible first|apply xs3|apply xI);(·simp +decide only [go_sem,hget,hb1,c6p,htop',hout,htop,hlt,hw1,hw2,hw3,hrw,c1,hwi,hbl,hal,List.length_map,List.length_range];rfl);first|with_reducible apply xT|with_reducible apply xF|(·repeat' (first|exact c2u|exact c2c|refine b8x ?_ ?_|refine c2b (by simp only [List.length_cons,List.length_nil];decide +kernel) ?_|refine c2d (b9s (by simp<;>omega) (by simp<;>omega) (by simp<;>omega)) ?_))))
   refine a17 (l.length - (i + 1)) (by omega) ?_
   exact hhead0 _ _ (i + 1) cb a b _ hlt (by simp +decide only [go_sem,a1q]<;>rfl) hadd (by rw [a54 hcl,if_neg (Ne.symm hcbb)];exact hcb) (by simp)
  ·obtain rfl:i = l.length:=by omega
   have c1:¬ (l.length:Int) < l.length:=by omega
   (repeat first|simp only [ww]|(apply xa;simp +decide only [go_sem,c1,hcb,hst1,a55,a7o,b2l,b8c,a8c,b71,List.append_assoc,List.cons_append,List.nil_append,hs0,hs1];rfl;kernel_rfl))
   refine a30 kp31_2 (fun N F H1=>∃ (t eb a b q:Nat) (ids:Nat → Nat),N = ((tests.length + 63) / 64) - t ∧ t ≤ ((tests.length + 63) / 64) ∧ F = [(1,sl rl (l.map Flt.enc)),(2,sl rt (tests.map Pat.enc)),(9,.ptr a 0 0),(11,.ptr eb 0 0),(12,.ptr q 0 0)] ∧ Tbl H1 a b q ids ((tests.length + 63) / 64) (foT c ord l tests ((tests.length + 63) / 64) t) ((64 * t:Nat):Int) ∧ a02 H1 eb = some (.row 9 [a58 c ord net0V pin0V]) ∧ 0 ≤ H1.length) (((tests.length + 63) / 64) - 0) ?_ ?_
   ·have hdone:=ht.lt
    refine hhead2 _ _ 0 H1.length a b (H1.length + 1) ids (Nat.zero_le _) (by simp +decide only [go_sem,a1q]<;>rfl) ?_ (by rw [a55,hEe];rfl) (by simp)
    rw [d3q]
    exact ht.more.done (by rw [a7o];rfl) (by omega) (by omega) (fun j hj=>by have:=hdone.2.2 j hj;omega)
   ·rintro N F H1 ⟨t,eb,a,b,q,ids,rfl,hi,rfl,ht,heb,hlen⟩
    have hout:=ht.out
    have hfrm:=ht.frm
    have hb0:=a0m ht.top
    have hal:=a0m hout
    have hw64:IntKind.i64.wrap (((64 * t:Nat):Int) + 64) = ((64 * (t + 1):Nat):Int):=by rw [w64 (by omega) (by omega)];omega
    by_cases hlt:64 * t < tests.length
    ·have c1:((64 * t:Nat):Int) < tests.length:=by omega
     have heb':=heb
     rw [hEe] at heb'
     obtain ⟨rp,hrp⟩:=c6o rt (tests.map Pat.enc) (64 * t) (min (64 * t + 64) tests.length)
     rw [← List.map_take,← List.map_drop,b7n tests t hlt] at hrp
     have hmn:(if (tests.length:Int) < ((64 * (t + 1):Nat):Int) then (tests.length:Int) else ((64 * (t + 1):Nat):Int)) = ((min (64 * t + 64) tests.length:Nat):Int):=by split<;>omega
     have hi1:inB ((min (64 * t + 64) tests.length:Nat):Int) tests.length = true:=b5m (by omega)
     have hi2:inB ((64 * t:Nat):Int) (min (64 * t + 64) tests.length) = true:=b5m (by omega)
     have hal1:(tests.map Pat.enc).all (fun r=>decide (r.length = 2)) = true:=by simp [Pat.enc]
     obtain ⟨H2,σ,hcb,ht2,hl2,hout2⟩:=d03 (E:=L.env) (d:=true) (call:=sem L.env Mf) (g:=52) (H:=H1) (by kernel_rfl) (by kernel_rfl) (fun y z=>[.agg (a58 c ord net0V pin0V),sl rl (l.map Flt.enc),sl rp ((a3s tests t).map Pat.enc),c0k y z])
      (by intro y z;simp only [c0k,a09,a1u,a2f,b8i,b22,a5o,a0y,b2r,List.append_nil,List.nil_append,List.cons_append])
      (by intro π y z y' z' e1 e2;simp only [c0k,List.map_cons,List.map_nil,b2q,c2f,d7o,c74,c7a,d25,e1,e2]) ht (by rw [b3r];omega) (fo':=foT c ord l tests ((tests.length + 63) / 64) (t + 1)) (by rw [b3r,b3r]) (by
      intro H0 a' b' q' ids' hT
      have hrw:=e6v c h ord hor hol rl rp l (a3s tests t) hf (fun p hp'=>hp p (a8j hp')) (a7a tests t) H0 a' b' q' ids' ((tests.length + 63) / 64) (foT c ord l tests ((tests.length + 63) / 64) t) (64 * t) hT (b3r c ord l tests ((tests.length + 63) / 64) t) hll (by omega) (by omega)
      rw [show 64 * t / 64 = t by omega,d3r (by omega)] at hrw
      exact hrw)
     unfold c0k at hcb
     rw [hEe] at hcb
     have hfrm2:=ht2.frm
     have hnq:=ht2.newq ((64 * (t + 1):Nat):Int)
     have hel:=a0m heb
     (repeat first|simp only [ww]|((with_reducible first|apply xs3|apply xI);(·simp +decide only [go_sem,hout,hfrm,hfrm2,c1,heb',hw64,hrp,hmn,hi1,hi2,hal1,hcb,e0b,a55,b2l,a8c];rfl);first|with_reducible apply xT|with_reducible apply xF|(·repeat' (first|exact c2u|exact c2c|refine b8x ?_ ?_|refine c2b (by simp only [List.length_cons,List.length_nil];decide +kernel) ?_|refine c2d (b9s (by simp<;>omega) (by simp<;>omega) (by simp<;>omega)) ?_))))
     refine a17 (((tests.length + 63) / 64) - (t + 1)) (by omega) ?_
     exact hhead2 _ _ (t + 1) eb a b H2.length ids (by omega) (by simp +decide only [go_sem,a1q]<;>rfl) hnq (by rw [a5j (eq_true (by omega))];exact (hout2 eb (ht.other heb (by omega))).trans heb) (by simp)
    ·have c1:¬ ((64 * t:Nat):Int) < tests.length:=by omega
     obtain rfl:t = ((tests.length + 63) / 64):=by omega
     rw [d3s] at ht
     have htl:(b4k c ord l tests).length = l.length:=by simp [b4k]
     have hout9:=ht.out
     rw [htl] at hout9
     have hz:=ht.frz (m:=0) (Nat.zero_le _) (fun j _=>Nat.zero_le _)
     rw [htl] at hz
     (repeat first|simp only [ww]|(apply xa;simp +decide only [go_sem,hout9,hfrm,c1];rfl;kernel_rfl))
     refine a2s (vs:=[.slice b 0 l.length (some l.length),.int .i64 0]) (r:=(_,_)) (by simp +decide only [go_sem]) ?_ rfl
     show a1v false 0 (.tuple [.slice b 0 l.length (some l.length),.int .i64 0]) H1 = _
     rw [a8i,b9b,a8h,hz,a8h,b7d]
     simp only [a0i,c7p,d96]
     rfl
end Go.MInst
