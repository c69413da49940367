/- Part of a proof. No condition. -/
import Derived.Test.YtgmenpackpnmaaaGreatDoorMLa
import Derived.Test.YtgmenpackpnmaaaGreatDoorMCa
set_option linter.unusedSimpArgs false
set_option linter.unusedVariables false
namespace Go.MInst
open Go.Proofs Go.Ax Go.Pc
set_option maxRecDepth 100000
def c0d (c:Cir) (ord:List Nat) (l:List Flt) (ts:List Pat) (i t:Nat):Bool:=match l[i]?,ts[t]? with
 | some f,some p=>(a2b c ord).det f p
 | _,_=>false
def a9t (most:Int) (D:Nat → Nat → Bool) (n:Nat) (g:Nat → Nat):List (List AV):=(List.range n).map fun i=>[AV.int .i64 (a2q most (D i) (g i)).1]
def a9v (most:Int) (D:Nat → Nat → Bool) (n:Nat) (g:Nat → Nat):List (List AV):=(List.range n).map fun i=>[AV.int .i64 (a2q most (D i) (g i)).2]
section
variable {most:Int} {D:Nat → Nat → Bool} {n:Nat} {g:Nat → Nat}
theorem a7f:(a9t most D n g).length = n:=by simp [a9t]
theorem a6c:(a9v most D n g).length = n:=by simp [a9v]
theorem b21 {i:Nat} (h:i < n):(a9t most D n g)[i]? = some [AV.int .i64 (a2q most (D i) (g i)).1]:=by simp [a9t,h]
theorem a9u {i:Nat} (h:i < n):(a9v most D n g)[i]? = some [AV.int .i64 (a2q most (D i) (g i)).2]:=by simp [a9v,h]
theorem rowF_one:OneR (a9t most D n g):=fun r hr=>by obtain ⟨i,_,rfl⟩:=List.mem_map.1 hr;exact ⟨_,rfl⟩
theorem rowC_one:OneR (a9v most D n g):=fun r hr=>by obtain ⟨i,_,rfl⟩:=List.mem_map.1 hr;exact ⟨_,rfl⟩
theorem d1x {i m:Nat} (h:i < n):(a9t most D n g).set i [AV.int .i64 (a2q most (D i) m).1] = a9t most D n (fun x=>if x = i then m else g x):=by
 apply List.ext_getElem?
 intro x
 by_cases hx:x < n
 ·rw [b21 hx]
  by_cases hxi:i = x
  ·subst hxi;rw [List.getElem?_set_self (by rw [a7f];exact h)];simp
  ·rw [List.getElem?_set_ne hxi,b21 hx,if_neg (fun e=>hxi e.symm)]
 ·rw [List.getElem?_eq_none (by rw [List.length_set,a7f];omega),List.getElem?_eq_none (by rw [a7f];omega)]
theorem d1z {i m:Nat} (h:i < n):(a9v most D n g).set i [AV.int .i64 (a2q most (D i) m).2] = a9v most D n (fun x=>if x = i then m else g x):=by
 apply List.ext_getElem?
 intro x
 by_cases hx:x < n
 ·rw [a9u hx]
  by_cases hxi:i = x
  ·subst hxi;rw [List.getElem?_set_self (by rw [a6c];exact h)];simp
  ·rw [List.getElem?_set_ne hxi,a9u hx,if_neg (fun e=>hxi e.symm)]
 ·rw [List.getElem?_eq_none (by rw [List.length_set,a6c];omega),List.getElem?_eq_none (by rw [a6c];omega)]
theorem d1y {g':Nat → Nat} (h:∀ i,i < n → (a2q most (D i) (g i)) = a2q most (D i) (g' i)):a9t most D n g = a9t most D n g':=by
 unfold a9t;exact List.map_congr_left fun i hi=>by rw [h i (List.mem_range.1 hi)]
theorem d20 {g':Nat → Nat} (h:∀ i,i < n → (a2q most (D i) (g i)) = a2q most (D i) (g' i)):a9v most D n g = a9v most D n g':=by
 unfold a9v;exact List.map_congr_left fun i hi=>by rw [h i (List.mem_range.1 hi)]
theorem c6w:a9t most D n (fun _=>0) = List.replicate n [AV.int .i64 (-1)]:=by
 unfold a9t a2q;rw [List.map_const',List.length_range]
theorem c6y:a9v most D n (fun _=>0) = List.replicate n [AV.int .i64 0]:=by
 unfold a9v a2q;rw [List.map_const',List.length_range]
end
def stay (most:Int) (D:Nat → Nat → Bool) (n t:Nat):List Nat:=(List.range n).filter fun i=>decide ((a2q most (D i) t).2 ≠ most)
theorem d6y {most:Int} {D:Nat → Nat → Bool} {n t i:Nat} (h:i ∈ stay most D n t):i < n:=List.mem_range.1 (List.mem_filter.1 h).1
theorem c46 (most:Int) (D:Nat → Nat → Bool) (n t:Nat):(stay most D n t).Nodup:=List.Pairwise.filter _ List.nodup_range
theorem b8a {most:Int} (hm:1 ≤ most) (D:Nat → Nat → Bool) (n:Nat):stay most D n 0 = List.range n:=by
 unfold stay a2q
 exact List.filter_eq_self.2 fun i _=>by simp;omega
theorem c6k {most:Int} {D:Nat → Nat → Bool} {n t s:Nat} (h:t ≤ s):(stay most D n t).filter (fun i=>decide ((a2q most (D i) s).2 ≠ most)) = stay most D n s:=by
 unfold stay
 rw [List.filter_filter]
 refine List.filter_congr fun i _=>?_
 by_cases h1:(a2q most (D i) t).2 = most
 ·have:=b75 h1 (s - t)
  rw [show t + (s - t) = s by omega] at this
  simp [this,h1]
 ·simp [h1]
theorem d1m {most:Int} {D:Nat → Nat → Bool} {n t s i:Nat} (hi:i < n) (hn:i ∉ stay most D n t) (h:t ≤ s):a2q most (D i) s = a2q most (D i) t:=by
 have h1:(a2q most (D i) t).2 = most:=by
  by_cases h2:(a2q most (D i) t).2 = most
  ·exact h2
  ·exact absurd (List.mem_filter.2 ⟨List.mem_range.2 hi,by simpa using h2⟩) hn
 have:=b75 h1 (s - t)
 rwa [show t + (s - t) = s by omega] at this
theorem b61 (A B C:AObj) (n t:Nat) (hn:n ≤ 80):a0c L.env false (sem L.env Mf) (.func (.func 32) [] []) [.int .i64 n,.int .i64 t] [some A,some B,some C] =
 some (.agg [.slice 5 0 n (some n),.slice 6 0 n (some n),.int .i64 t],[some A,some B,some C,some (.row 3 [[.slice 5 0 n (some n),.slice 6 0 n (some n),.int .i64 t]]),some (.row 1 [[.int .i64 (-1)]]),some (.row 1 (List.replicate n [.int .i64 (-1)])),some (.row 1 (List.replicate n [.int .i64 0]))],[]):=by
 have h1:=fun π=>a04 π (OneR.rep n (-1)).flat
 have h2:=fun π=>a04 π (OneR.rep n 0).flat
 have hc:=a1c (sem L.env Mf 32) [.int .i64 n,.int .i64 t] [some A,some B,some C] (σ:=[]) rfl rfl rfl (args':=[.int .i64 n,.int .i64 t]) rfl (H0:=[]) rfl (d4j n t hn)
 refine a8k (by kernel_rfl) (by kernel_rfl) rfl (hc.trans ?_)
 simp +decide only [go_sem,h1,h2]<;>rfl
theorem c0z (A B C Y:AObj) (n i f0 m:Nat) (most:Int) (FR CR:List (List AV)) (T:List (List AV)) (w k:Nat) (tests:Int) (D:Nat → Bool) (hi:i < n) (hFl:FR.length = n) (hCl:CR.length = n) (hn:n ≤ 80)
 (hF1:OneR FR) (hC1:OneR CR) (hm:m ≤ 64) (hf0:f0 ≤ 4096) (hF:FR[i]? = some [.int .i64 (a2q most D f0).1]) (hC:CR[i]? = some [.int .i64 (a2q most D f0).2])
 (hH:∀ t,t < m → sem L.env Mf 35 [.int .i64 t,.ptr 0 0 0,.ptr 1 0 0] [some (.row 1 [[.islice T (some w)]]),some (.row 1 [[.int .i64 k]])] = some (.bool (D (f0 + t)),[some (.row 1 [[.islice T (some w)]]),some (.row 1 [[.int .i64 k]])])) :
 a0c L.env false (sem L.env Mf) (.func (.func 34) [] []) [.ptr 3 0 0,.int .i64 i,.int .i64 f0,.int .i64 m,.int .i64 most,.func (.func 35) [] [.ptr 7 0 0,.ptr 8 0 0]]
  [some A,some B,some C,some (.row 3 [[.slice 4 0 n (some n),.slice 5 0 n (some n),.int .i64 tests]]),some (.row 1 FR),some (.row 1 CR),some Y,some (.row 1 [[.islice T (some w)]]),some (.row 1 [[.int .i64 k]])] =
 some (.tuple [],[some A,some B,some C,some (.row 3 [[.slice 4 0 n (some n),.slice 5 0 n (some n),.int .i64 tests]]),some (.row 1 (FR.set i [.int .i64 (a2q most D (f0 + m)).1])),some (.row 1 (CR.set i [.int .i64 (a2q most D (f0 + m)).2])),some Y,some (.row 1 [[.islice T (some w)]]),some (.row 1 [[.int .i64 k]])],[3,4,5,7,8]):=by
 have r1:=fun π=>a04 π hF1.flat
 have r2:=fun π=>a04 π hC1.flat
 have r3:=fun π=>a04 π (hF1.set i (a2q most D (f0 + m)).1).flat
 have r4:=fun π=>a04 π (hC1.set i (a2q most D (f0 + m)).2).flat
 have z1:=a06 hF1.flat
 have z2:=a06 hC1.flat
 have hr:=c7d n i f0 m most FR CR T w k tests D hi hFl hCl hn hF1.flat hC1.flat hm hf0 0 0 hF hC hH
 have hc:=a1c (sem L.env Mf 34) [.ptr 3 0 0,.int .i64 i,.int .i64 f0,.int .i64 m,.int .i64 most,.func (.func 35) [] [.ptr 7 0 0,.ptr 8 0 0]]
  [some A,some B,some C,some (.row 3 [[.slice 4 0 n (some n),.slice 5 0 n (some n),.int .i64 tests]]),some (.row 1 FR),some (.row 1 CR),some Y,some (.row 1 [[.islice T (some w)]]),some (.row 1 [[.int .i64 k]])] (σ:=[3,4,5,7,8]) (by simp +decide only [go_sem,z1,z2]) rfl rfl
  (args':=[.ptr 0 0 0,.int .i64 i,.int .i64 f0,.int .i64 m,.int .i64 most,.func (.func 35) [] [.ptr 3 0 0,.ptr 4 0 0]]) rfl
  (H0:=[some (.row 3 [[.slice 1 0 n (some n),.slice 2 0 n (some n),.int .i64 tests]]),some (.row 1 FR),some (.row 1 CR),some (.row 1 [[.islice T (some w)]]),some (.row 1 [[.int .i64 k]])]) (by simp only [a1y,List.map_cons,List.map_nil,a02,List.getElem?_cons_succ,List.getElem?_cons_zero,Option.join_some,Option.map_some,a0v,r1,r2];rfl) hr
 refine a2u (by kernel_rfl) (by kernel_rfl) rfl (hc.trans ?_) rfl
 simp +decide only [go_sem,r3,r4]<;>rfl
theorem d8z (c:Cir) (ord:List Nat) (l:List Flt) (ts:List Pat) (hp:∀ p ∈ ts,PatOk c.nodes p) (is:List Nat) (b k i t:Nat) (hk:is[k]? = some i) (hi:i < l.length) (ht:t < (a3s ts b).length) (htl:ts.length ≤ 100) (n:Nat) (hn:n = (pkF l is).length) :
 sem L.env Mf 35 [.int .i64 t,.ptr 0 0 0,.ptr 1 0 0] [some (.row 1 [[.islice ((a5t c ord (pkF l is) (a3s ts b)).map c6x) (some n)]]),some (.row 1 [[.int .i64 k]])] = some (.bool (c0d c ord l ts i (64 * b + t)),[some (.row 1 [[.islice ((a5t c ord (pkF l is) (a3s ts b)).map c6x) (some n)]]),some (.row 1 [[.int .i64 k]])]):=by
 obtain ⟨f,hf⟩:∃ f,l[i]? = some f:=⟨_,List.getElem?_eq_getElem hi⟩
 obtain ⟨p,hpp⟩:∃ p,(a3s ts b)[t]? = some p:=⟨_,List.getElem?_eq_getElem ht⟩
 have htl2:t < 64:=Nat.lt_of_lt_of_le ht (a7a ts b)
 have h1:=e3g (some (some n)) (a5t c ord (pkF l is) (a3s ts b)) _ n (a6j _ _) k t (by omega)
 rw [d9x c ord (pkF l is) (a3s ts b) (fun p h=>hp p (a8j h)) k t f (c7k hk hf),hpp] at h1
 have h2:c0d c ord l ts i (64 * b + t) = (a2b c ord).det f p:=by
  unfold c0d
  rw [hf,← b9u htl2,hpp]
 rw [h2]
 exact h1
theorem c1r (A C Y:AObj) (n:Nat) (most tests:Int) (cv:Nat → Int) (FR CR rest:List (List AV)) (is:List Nat) (hF1:OneR FR) (hC1:OneR CR) (hrest:OneR rest) (hCl:CR.length = n) (hC:∀ i,i < n → CR[i]? = some [.int .i64 (cv i)])
 (his:∀ i ∈ is,i < n) (hil:is.length ≤ 1000) :
 ∃ rest',OneR rest' ∧ a0c L.env false (sem L.env Mf) (.func (.func 37) [] []) [.slice 6 0 is.length none,.func (.func 38) [] [.ptr 3 0 0,.ptr 1 0 0]]
  [some A,some (.row 1 [[.int .i64 most]]),some C,some (.row 3 [[.slice 4 0 n (some n),.slice 5 0 n (some n),.int .i64 tests]]),some (.row 1 FR),some (.row 1 CR),some (.row 1 (is.map a0d ++ rest)),some Y] =
  some (.slice 6 0 (is.filter fun i=>decide (cv i ≠ most)).length none,[some A,some (.row 1 [[.int .i64 most]]),some C,some (.row 3 [[.slice 4 0 n (some n),.slice 5 0 n (some n),.int .i64 tests]]),some (.row 1 FR),some (.row 1 CR),some (.row 1 ((is.filter fun i=>decide (cv i ≠ most)).map a0d ++ rest')),some Y],[6,3,4,5,1]):=by
 obtain ⟨r,⟨rest',hr1,rfl⟩,hr⟩:=c9r n most tests cv FR CR rest is none hF1.flat hC1.flat hrest hCl hC his hil (fun m h=>by cases h)
 have r1:=fun π=>a04 π hF1.flat
 have r2:=fun π=>a04 π hC1.flat
 have r3:=fun π=>a04 π ((OneR.ints is).app hrest).flat
 have r4:=fun π=>a04 π ((OneR.ints (is.filter fun i=>decide (cv i ≠ most))).app hr1).flat
 have z1:=a06 hF1.flat
 have z2:=a06 hC1.flat
 have z3:=a06 ((OneR.ints is).app hrest).flat
 refine ⟨rest',hr1,?_⟩
 generalize is.map a0d ++ rest = R0 at *
 generalize (is.filter fun i=>decide (cv i ≠ most)).map a0d ++ rest' = R1 at *
 have hc:=a1c (sem L.env Mf 37) [.slice 6 0 is.length none,.func (.func 38) [] [.ptr 3 0 0,.ptr 1 0 0]]
  [some A,some (.row 1 [[.int .i64 most]]),some C,some (.row 3 [[.slice 4 0 n (some n),.slice 5 0 n (some n),.int .i64 tests]]),some (.row 1 FR),some (.row 1 CR),some (.row 1 R0),some Y] (σ:=[6,3,4,5,1]) (by simp +decide only [go_sem,z1,z2,z3]) rfl rfl
  (args':=[.slice 0 0 is.length none,.func (.func 38) [] [.ptr 1 0 0,.ptr 4 0 0]]) rfl
  (H0:=[some (.row 1 R0),some (.row 3 [[.slice 2 0 n (some n),.slice 3 0 n (some n),.int .i64 tests]]),some (.row 1 FR),some (.row 1 CR),some (.row 1 [[.int .i64 most]])]) (by simp only [a1y,List.map_cons,List.map_nil,a02,List.getElem?_cons_succ,List.getElem?_cons_zero,Option.join_some,Option.map_some,a0v,r1,r2,r3];rfl) hr
 refine a2u (by kernel_rfl) (by kernel_rfl) rfl (hc.trans ?_) rfl
 simp +decide only [go_sem,r1,r2,r4]<;>rfl
set_option maxHeartbeats 200000000
open Go.Proofs Go.Ax Go.Pc
set_option maxRecDepth 100000
theorem d8f (c:Cir) (h:c.wf) (rl rt:Rep) (l:List Flt) (ts:List Pat) (most:Int) (hm1:1 ≤ most) (hm2:most < 9223372036854775808) (hn0:0 < l.length) (hll:l.length ≤ 80) (htl:ts.length ≤ 100) (hf:∀ f ∈ l,FltOk c.nodes f) (hp:∀ p ∈ ts,PatOk c.nodes p) (ord:List Nat) (hop:ord.Perm (List.range c.nodes.length))
 (hst:∀ (d:Bool) (H:a05),a0c L.env d (sem L.env Mf) (.func (.func 51) [] []) [.agg c.enc] H = some (.agg (a58 c ord net0V pin0V),H,[])) :
 sem L.env Mf 21 [.agg c.enc,sl rl (l.map Flt.enc),sl rt (ts.map Pat.enc),.int .i64 most] [] =
  some (.agg [.islice (a9t most (c0d c ord l ts) l.length fun _=>ts.length) (some l.length),.islice (a9v most (c0d c ord l ts) l.length fun _=>ts.length) (some l.length),.int .i64 ts.length],[]):=by
 have hce:c.enc = [sl c.nc (c.nodes.map Nd.enc),sl c.mc (c.names.map a1r),.nilslice,sl c.oc (c.outs.map a0d)]:=rfl
 obtain ⟨n,hn⟩:∃ n,n = l.length:=⟨_,rfl⟩
 rw [← hn]
 have hbl:=fun A B C=>b61 A B C n ts.length (by omega)
 have hml:∀ f:List Flt,(f.map Flt.enc).length = f.length:=fun f=>List.length_map _
 rw [← hn] at hn0 hll
 rw [hce]
 (refine sv Tryz.f21 ?_;simp only [Tryz.f21,gS])
 (repeat first|simp only [ww]|(apply xa;simp +decide only [go_sem,hbl,← hn,List.length_map];rfl;kernel_rfl))
 have f1:=(OneR.rep n (-1)).flat
 have f2:=(OneR.rep n 0).flat
 have f3:=fun i=>(OneR.ints (List.range i)).flat
 have r1:=fun π=>a04 π f1
 have r2:=fun π=>a04 π f2
 have r3:=fun π i=>a04 π (f3 i)
 have z1:=a06 f1
 have z2:=a06 f2
 have z3:=fun i=>a06 (f3 i)
 refine a0s (m:=0) (σ:=Nat) kp21_0 (fun i=>[(1,sl rl (l.map Flt.enc)),(2,sl rt (ts.map Pat.enc)),(4,.ptr 0 0 0),(7,.ptr 1 0 0),(8,.ptr 2 0 0),(9,.ptr 3 0 0),(10,grV 6 ((List.range i).map a0d)),(25,.int .i64 n),(26,.int .i64 i)])
  (fun i=>some (.row 4 [[sl c.nc (c.nodes.map Nd.enc),sl c.mc (c.names.map a1r),.nilslice,sl c.oc (c.outs.map a0d)]]) :: some (.row 1 [[.int .i64 most]]) :: some (.row 3 [[.nilslice,.nilslice,.int .i64 0]]) :: some (.row 3 [[.slice 4 0 n (some n),.slice 5 0 n (some n),.int .i64 ts.length]]) :: some (.row 1 (List.replicate n [.int .i64 (-1)])) :: some (.row 1 (List.replicate n [.int .i64 0])) :: grH 1 ((List.range i).map a0d)) (fun i=>n - i) (fun i=>i ≤ n) 0 ?_ (Nat.zero_le _) ?_
 ·(simp +decide only [go_sem,a01,a00,z1,z2,r1,r2,List.range_zero,List.map_nil,a0f,a0g]<;>rfl)<;>rfl
 ·intro i hi
  by_cases hlt:i < n
  ·have d1:(i:Int) < n:=by omega
   have hwi:=wI1 (n:=i) (by omega)
   have hrs:(List.range (i + 1)).map a0d = (List.range i).map a0d ++ [[AV.int .i64 (i:Int)]]:=by rw [List.range_succ,List.map_append];rfl
   have hlr:((List.range i).map a0d).length = i:=by simp
   have hrm:i + 1 ≤ 1000000000:=by omega
   by_cases hi0:i = 0
   ·subst hi0
    (repeat first|simp only [ww]|(apply xa;simp +decide only [go_sem,d1,hwi,a0f,a0g,List.range_zero,List.map_nil];rfl;kernel_rfl))
    refine a1w 1 ?_ (by omega) (by omega)
    (simp +decide only [go_sem,a01,a00,z1,z2,r1,r2]<;>rfl)<;>rfl
   ·have hne:(List.range i).map a0d ≠ []:=fun e=>hi0 (by rw [← hlr,e];rfl)
    have e1:=b0a 6 hne
    have e2:=b0b 1 hne
    rw [e1,e2]
    (repeat first|simp only [ww]|(apply xa;simp +decide only [go_sem,d1,hwi,hlr,hrm,List.length_map,List.length_range];rfl;kernel_rfl))
    refine a1w (i + 1) ?_ (by omega) (by omega)
    simp only [hrs,b78,c30,hlr]
    (simp +decide only [go_sem,a01,a00,z1,z2,r1,r2,z3,r3,List.flatMap_append,List.map_append]<;>rfl)<;>rfl
  ·obtain rfl:n = i:=by omega
   have d1:¬ (n:Int) < n:=by omega
   have hlr:((List.range n).map a0d).length = n:=by simp
   have hne:(List.range n).map a0d ≠ []:=fun e=>absurd hn0 (by rw [← hlr,e];simp)
   have e1:=b0a 6 hne
   have e2:=b0b 1 hne
   rw [e1,e2,hlr]
   have hq1:IntKind.i64.wrap ((ts.length:Int) + 64) = ((ts.length + 64:Nat):Int):=by rw [w64 (by omega) (by omega)];omega
   have hq2:IntKind.i64.wrap (((ts.length + 64:Nat):Int) - 1) = ((ts.length + 63:Nat):Int):=by rw [w64 (by omega) (by omega)];omega
   have hq3:IntKind.i64.wrap (((ts.length + 63) / 64:Nat):Int) = (((ts.length + 63) / 64:Nat):Int):=w64 (by omega) (by omega)
   (repeat first|simp only [ww]|(apply xa;simp +decide only [go_sem,d1,hq1,hq2,hq3,List.length_map];rfl;kernel_rfl))
   obtain ⟨D,hD⟩:∃ D,D = c0d c ord l ts:=⟨_,rfl⟩
   rw [← hD]
   obtain ⟨w,hw⟩:∃ w,w = (ts.length + 63) / 64:=⟨_,rfl⟩
   rw [← hw]
   obtain ⟨tb,htb⟩:∃ tb:Nat → Nat,tb = fun b=>min (64 * b) ts.length:=⟨_,rfl⟩
   have htbv:∀ b,tb b = min (64 * b) ts.length:=fun b=>by rw [htb]
   have htb0:tb 0 = 0:=by rw [htbv];omega
   have htbw:tb w = ts.length:=by rw [htbv];omega
   have hF:=@rowF_one
   have hC:=@rowC_one
   refine a30 (m:=0) kp21_2 (fun N F H=>∃ (b:Nat) (rest:List (List AV)),N = w - b ∧ b ≤ w ∧ OneR rest ∧
    F = [(1,sl rl (l.map Flt.enc)),(2,sl rt (ts.map Pat.enc)),(4,.ptr 0 0 0),(7,.ptr 1 0 0),(8,.ptr 2 0 0),(9,.ptr 3 0 0),(10,.slice 6 0 (stay most D n (tb b)).length none),(38,.int .i64 w),(39,.int .i64 b)] ∧
    H = [some (.row 4 [[sl c.nc (c.nodes.map Nd.enc),sl c.mc (c.names.map a1r),.nilslice,sl c.oc (c.outs.map a0d)]]),some (.row 1 [[.int .i64 most]]),some (.row 3 [[.nilslice,.nilslice,.int .i64 0]]),some (.row 3 [[.slice 4 0 n (some n),.slice 5 0 n (some n),.int .i64 ts.length]]),some (.row 1 (a9t most D n fun _=>tb b)),some (.row 1 (a9v most D n fun _=>tb b)),some (.row 1 ((stay most D n (tb b)).map a0d ++ rest))]) w ?_ ?_
   ·refine ⟨[(1,sl rl (l.map Flt.enc)),(2,sl rt (ts.map Pat.enc)),(4,.ptr 0 0 0),(7,.ptr 1 0 0),(8,.ptr 2 0 0),(9,.ptr 3 0 0),(10,.slice 6 0 n none),(38,.int .i64 w),(39,.int .i64 (0:Nat))],[some (.row 4 [[sl c.nc (c.nodes.map Nd.enc),sl c.mc (c.names.map a1r),.nilslice,sl c.oc (c.outs.map a0d)]]),some (.row 1 [[.int .i64 most]]),some (.row 3 [[.nilslice,.nilslice,.int .i64 0]]),some (.row 3 [[.slice 4 0 n (some n),.slice 5 0 n (some n),.int .i64 ts.length]]),some (.row 1 (List.replicate n [.int .i64 (-1)])),some (.row 1 (List.replicate n [.int .i64 0])),some (.row 1 ((List.range n).map a0d))],
     by (simp +decide only [go_sem,a01,a00,z1,z2,z3,r1,r2,r3]<;>rfl)<;>rfl,0,[],rfl,Nat.zero_le _,fun r hr=>by simp at hr,?_,?_⟩
    ·rw [htb0,b8a hm1,List.length_range]
    ·rw [htb0,b8a hm1,c6w,c6y,List.append_nil]
   ·rintro N F H ⟨b,rest,rfl,hb,hrest,rfl,rfl⟩
    have hS1:=(OneR.ints (stay most D n (tb b))).app hrest
    by_cases hbw:b < w
    ·have c1:(b:Int) < w:=by omega
     have hbT:64 * b < ts.length:=by omega
     have htbb:tb b = 64 * b:=by rw [htbv];omega
     have htbn:tb (b + 1) = min (64 * b + 64) ts.length:=by rw [htbv];omega
     have hwb:=wI1 (n:=b) (by omega)
     have hwm:IntKind.i64.wrap ((b:Int) * 64) = ((64 * b:Nat):Int):=by rw [w64 (by omega) (by omega)];omega
     have hw64:IntKind.i64.wrap (((64 * b:Nat):Int) + 64) = ((64 * (b + 1):Nat):Int):=by rw [w64 (by omega) (by omega)];omega
     have hmn:(if (ts.length:Int) < ((64 * (b + 1):Nat):Int) then (ts.length:Int) else ((64 * (b + 1):Nat):Int)) = ((min (64 * b + 64) ts.length:Nat):Int):=by split<;>omega
     have hi1:inB ((min (64 * b + 64) ts.length:Nat):Int) ts.length = true:=b5m (by omega)
     have hi2:inB ((64 * b:Nat):Int) (min (64 * b + 64) ts.length) = true:=b5m (by omega)
     have hal1:(ts.map Pat.enc).all (fun r=>decide (r.length = 2)) = true:=by simp [Pat.enc]
     obtain ⟨rp,hrp⟩:=c6o rt (ts.map Pat.enc) (64 * b) (min (64 * b + 64) ts.length)
     rw [← List.map_take,← List.map_drop,b7n ts b hbT] at hrp
     obtain ⟨S,hS⟩:∃ S,S = stay most D n (tb b):=⟨_,rfl⟩
     have hSl:∀ i ∈ S,i < n:=fun i hi=>d6y (hS ▸ hi)
     have hSn:S.length ≤ 80:=by rw [hS];unfold stay;exact Nat.le_trans (List.length_filter_le _ _) (by rw [List.length_range];omega)
     rw [← hS] at hS1 ⊢
     have hpick:∀ (d:Bool),a0c L.env d (sem L.env Mf) (.func (.func 33) [] []) [sl rl (l.map Flt.enc),.slice 6 0 S.length none] [some (.row 4 [[sl c.nc (c.nodes.map Nd.enc),sl c.mc (c.names.map a1r),.nilslice,sl c.oc (c.outs.map a0d)]]),some (.row 1 [[.int .i64 most]]),some (.row 3 [[.nilslice,.nilslice,.int .i64 0]]),some (.row 3 [[.slice 4 0 n (some n),.slice 5 0 n (some n),.int .i64 ts.length]]),some (.row 1 (a9t most D n fun _=>tb b)),some (.row 1 (a9v most D n fun _=>tb b)),some (.row 1 (S.map a0d ++ rest))] =
      some (.islice ((pkF l S).map Flt.enc) (some S.length),[some (.row 4 [[sl c.nc (c.nodes.map Nd.enc),sl c.mc (c.names.map a1r),.nilslice,sl c.oc (c.outs.map a0d)]]),some (.row 1 [[.int .i64 most]]),some (.row 3 [[.nilslice,.nilslice,.int .i64 0]]),some (.row 3 [[.slice 4 0 n (some n),.slice 5 0 n (some n),.int .i64 ts.length]]),some (.row 1 (a9t most D n fun _=>tb b)),some (.row 1 (a9v most D n fun _=>tb b)),some (.row 1 (S.map a0d ++ rest))],[6]):=by
      intro d
      exact a2d (E:=L.env) (draw:=d) (call:=sem L.env Mf) (fs:=[]) (cs:=[]) (ar:=[sl rl (l.map Flt.enc),.slice 6 0 S.length none]) (b:=6) (o:=.row 1 (S.map a0d ++ rest)) (by kernel_rfl) (by kernel_rfl) rfl rfl (a0u hS1.flat) (FlatO.row hS1.flat) (by simp +decide only [go_sem]) (args':=[sl rl (l.map Flt.enc),.slice 0 0 S.length none]) (by simp only [List.nil_append,List.append_nil,List.map_cons,List.map_nil,a29,b2q]) (d80 l rl S rest none (fun i hi=>by have:=hSl i hi;omega) hrest.flat (by omega)) rfl
     have htab:=fun (d:Bool) H=>a8p (d:=d) H c h (some (some S.length)) rp (pkF l S) (a3s ts b) (by rw [b6t];omega) (Nat.le_trans (a7a ts b) (by omega)) (by
      intro f hf'
      unfold pkF at hf'
      obtain ⟨i,hi,rfl⟩:=List.mem_map.1 hf'
      have:=hSl i hi
      rw [List.getD_eq_getElem?_getD,List.getElem?_eq_getElem (by omega)]
      exact hf _ (List.getElem_mem _)) (fun p hp'=>hp p (a8j hp')) ord hop hst
     rw [a6j,hce,b6t] at htab
     obtain ⟨TT,hTT⟩:∃ TT,TT = (a5t c ord (pkF l S) (a3s ts b)).map c6x:=⟨_,rfl⟩
     rw [← hTT] at htab
     (repeat first|simp only [ww]|(apply xa;simp +decide only [go_sem,c1,hwm,hw64,hmn,hi1,hi2,hal1,hrp,e0b,hpick,htab,List.length_map];rfl;kernel_rfl))
     obtain ⟨g,hg⟩:∃ g:Nat → Nat → Nat,g = fun k x=>if x ∈ S.take k then tb (b + 1) else tb b:=⟨_,rfl⟩
     have hg0:g 0 = fun _=>tb b:=by rw [hg];funext x;simp
     have hm:64 * b + (a3s ts b).length = tb (b + 1):=by rw [htbn];unfold a3s;rw [List.length_take,List.length_drop];omega
     have hcl:=a7a ts b
     have hSnd:S.Nodup:=hS ▸ c46 most D n (tb b)
     refine a0s (m:=0) (σ:=Nat) kp21_4 (fun k=>[(1,sl rl (l.map Flt.enc)),(2,sl rt (ts.map Pat.enc)),(4,.ptr 0 0 0),(7,.ptr 1 0 0),(8,.ptr 2 0 0),(9,.ptr 3 0 0),(10,.slice 6 0 S.length none),(13,.int .i64 (64 * b:Nat)),(14,sl rp ((a3s ts b).map Pat.enc)),(15,.ptr 7 0 0),(38,.int .i64 w),(39,.int .i64 b),(61,.slice 6 0 S.length none),(62,.int .i64 S.length),(63,.int .i64 k)])
      (fun k=>[some (.row 4 [[sl c.nc (c.nodes.map Nd.enc),sl c.mc (c.names.map a1r),.nilslice,sl c.oc (c.outs.map a0d)]]),some (.row 1 [[.int .i64 most]]),some (.row 3 [[.nilslice,.nilslice,.int .i64 0]]),some (.row 3 [[.slice 4 0 n (some n),.slice 5 0 n (some n),.int .i64 ts.length]]),some (.row 1 (a9t most D n (g k))),some (.row 1 (a9v most D n (g k))),some (.row 1 (S.map a0d ++ rest)),some (.row 1 [[.islice TT (some S.length)]])]) (fun k=>S.length - k) (fun k=>k ≤ S.length) 0 ?_ (Nat.zero_le _) ?_
     ·rw [hg0]
      (simp +decide only [go_sem,a01,a00,a06 hS1.flat,a06 rowF_one.flat,a06 rowC_one.flat,a04 _ hS1.flat,a04 _ rowF_one.flat,a04 _ rowC_one.flat]<;>rfl)<;>rfl
     ·intro k hk
      by_cases hkl:k < S.length
      ·obtain ⟨i,hi⟩:∃ i,S[k]? = some i:=⟨_,List.getElem?_eq_getElem hkl⟩
       have hin:=hSl i (List.mem_of_getElem? hi)
       have hnot:i ∉ S.take k:=by
        intro hmem
        obtain ⟨x,hx⟩:=List.mem_iff_getElem?.1 hmem
        rw [List.getElem?_take] at hx
        split at hx
        ·rename_i hxk
         have:=(List.getElem?_inj (by omega) hSnd).1 (hx.trans hi.symm)
         omega
        ·cases hx
       have hgi:g k i = tb b:=by rw [hg];simp [hnot]
       have hgn:g (k + 1) = fun x=>if x = i then tb (b + 1) else g k x:=by
        rw [hg];funext x
        simp only [List.take_add_one,hi,Option.toList,List.mem_append,List.mem_singleton]
        by_cases h1:x = i
        ·simp [h1]
        ·simp [h1]
       have hRg:(S.map a0d ++ rest)[k]? = some [AV.int .i64 (i:Int)]:=by
        rw [List.getElem?_append_left (by rw [List.length_map];exact hkl),List.getElem?_map,hi];rfl
       have hRl:S.length ≤ (S.map a0d ++ rest).length:=by simp
       have d1:(k:Int) < S.length:=by omega
       have hwk:=wI1 (n:=k) (by omega)
       have hrec:=c0z (.row 4 [[sl c.nc (c.nodes.map Nd.enc),sl c.mc (c.names.map a1r),.nilslice,sl c.oc (c.outs.map a0d)]]) (.row 1 [[.int .i64 most]]) (.row 3 [[.nilslice,.nilslice,.int .i64 0]]) (.row 1 (S.map a0d ++ rest)) n i (64 * b) (a3s ts b).length most (a9t most D n (g k)) (a9v most D n (g k)) TT S.length k ts.length (D i) hin a7f a6c (by omega) rowF_one rowC_one hcl (by omega)
        (by rw [b21 hin,hgi,htbb]) (by rw [a9u hin,hgi,htbb]) (by
         intro t ht
         rw [hTT,hD]
         exact d8z c ord l ts hp S b k i t hi (by omega) ht htl S.length (b6t l S).symm)
       rw [hm,d1x hin,d1z hin,← hgn] at hrec
       (repeat first|simp only [ww]|(apply xa;simp +decide only [go_sem,d1,hkl,hRg,hRl,hrec,hwk,List.length_map];rfl;kernel_rfl))
       refine a1w (k + 1) ?_ (by omega) (by omega)
       (simp +decide only [go_sem,a01,a00,a06 hS1.flat,a06 rowF_one.flat,a06 rowC_one.flat,a04 _ hS1.flat,a04 _ rowF_one.flat,a04 _ rowC_one.flat]<;>rfl)<;>rfl
      ·obtain rfl:k = S.length:=by omega
       have d1:¬ (S.length:Int) < S.length:=by omega
       have hle:tb b ≤ tb (b + 1):=by rw [htbv,htbv];omega
       have hgS:∀ i,i < n → a2q most (D i) (g S.length i) = a2q most (D i) (tb (b + 1)):=by
        intro i hi
        rw [hg]
        simp only [List.take_length]
        by_cases hm':i ∈ S
        ·rw [if_pos hm']
        ·rw [if_neg hm',d1m hi (hS ▸ hm') hle]
       rw [d1y (g':=fun _=>tb (b + 1)) hgS,d20 (g':=fun _=>tb (b + 1)) hgS]
       obtain ⟨rest',hr',hdel⟩:=c1r (.row 4 [[sl c.nc (c.nodes.map Nd.enc),sl c.mc (c.names.map a1r),.nilslice,sl c.oc (c.outs.map a0d)]]) (.row 3 [[.nilslice,.nilslice,.int .i64 0]]) (.row 1 [[.islice TT (some S.length)]]) n most ts.length (fun i=>(a2q most (D i) (tb (b + 1))).2) (a9t most D n fun _=>tb (b + 1)) (a9v most D n fun _=>tb (b + 1)) rest S rowF_one rowC_one hrest a6c (fun i hi=>a9u hi) hSl (by omega)
       rw [hS,c6k hle,← hS] at hdel
       have hS2:=(OneR.ints (stay most D n (tb (b + 1)))).app hr'
       (repeat first|simp only [ww]|(apply xa;simp +decide only [go_sem,d1,hdel,hwb];rfl;kernel_rfl))
       refine a17 (w - (b + 1)) (by omega) ⟨_,_,?_,b + 1,rest',rfl,by omega,hr',rfl,rfl⟩
       (simp +decide only [go_sem,a01,a00,a06 hS2.flat,a06 rowF_one.flat,a06 rowC_one.flat,a04 _ hS2.flat,a04 _ rowF_one.flat,a04 _ rowC_one.flat]<;>rfl)<;>rfl
    ·obtain rfl:w = b:=by omega
     have c1:¬ (w:Int) < w:=by omega
     have t1:∀ g,(a9t most D n g).take n = a9t most D n g:=fun g=>List.take_of_length_le (by rw [a7f];exact Nat.le_refl _)
     have t2:∀ g,(a9v most D n g).take n = a9v most D n g:=fun g=>List.take_of_length_le (by rw [a6c];exact Nat.le_refl _)
     have t3:∀ (d:AV → Option AV) g,a7z 0 d (a9t most D n g) = some (a9t most D n g):=fun d g=>a0r 0 d rowF_one.flat
     have t4:∀ (d:AV → Option AV) g,a7z 0 d (a9v most D n g) = some (a9v most D n g):=fun d g=>a0r 0 d rowC_one.flat
     (repeat first|simp only [ww]|(apply xa;simp +decide only [go_sem,c1];rfl;kernel_rfl))
     (apply fqb;simp +decide only [go_sem,htbw,t1,t2,t3,t4,a7f,a6c]<;>rfl)
set_option maxHeartbeats 200000000
open Go.Proofs Go.Ax Go.Pc
set_option maxRecDepth 100000
theorem d29 (rows:List (List AV)) (rl:Rep):sem L.env Mf 33 [sl rl rows,.nilslice] [] = some (.islice [] (some 0),[]):=by
 (refine sv Tryz.f33 ?_;simp only [Tryz.f33,gS])
 have hmk:c1b L.env 68 0 0 = true:=a48 (m:=0) (by omega) (by decide +kernel)
 (repeat first|simp only [ww]|(apply xa;simp +decide only [go_sem,hmk];rfl;kernel_rfl))
 refine a0s (m:=0) (σ:=Nat) kp33_0 (fun j=>[(0,sl rl rows),(5,.slice 0 0 0 (some 0)),(11,.nilslice),(12,.int .i64 0),(13,.int .i64 0)]) (fun j=>[some (.row 5 [])]) (fun j=>0) (fun j=>True) 0 ?_ trivial ?_
 ·(simp +decide only [go_sem,a01,a00]<;>rfl)<;>rfl
 ·intro j _
  (repeat first|simp only [ww]|(apply xa;simp +decide only [go_sem];rfl;kernel_rfl))
  (apply fqb;simp +decide only [go_sem]<;>rfl)
theorem c8x (most tests:Int):sem L.env Mf 55 [.nilslice,.func (.func 38) [] [.ptr 0 0 0,.ptr 3 0 0]] [some (.row 3 [[.slice 1 0 0 (some 0),.slice 2 0 0 (some 0),.int .i64 tests]]),some (.row 1 []),some (.row 1 []),some (.row 1 [[.int .i64 most]])] = some (.int .i64 (-1),[some (.row 3 [[.slice 1 0 0 (some 0),.slice 2 0 0 (some 0),.int .i64 tests]]),some (.row 1 []),some (.row 1 []),some (.row 1 [[.int .i64 most]])]):=by
 (refine sv Tryz.f55 ?_;simp only [Tryz.f55,gS])
 (repeat first|simp only [ww]|(apply xa;simp +decide only [go_sem];rfl;kernel_rfl))
 refine a0s (σ:=Nat) kp55_0 (fun j=>[(0,.nilslice),(1,.func (.func 38) [] [.ptr 0 0 0,.ptr 3 0 0]),(7,.int .i64 0),(8,.int .i64 0)]) (fun j=>[some (.row 3 [[.slice 1 0 0 (some 0),.slice 2 0 0 (some 0),.int .i64 tests]]),some (.row 1 []),some (.row 1 []),some (.row 1 [[.int .i64 most]])]) (fun j=>0) (fun j=>True) 0 ?_ trivial ?_
 ·(simp +decide only [go_sem,a01,a00]<;>rfl)<;>rfl
 ·intro j _
  (repeat first|simp only [ww]|(apply xa;simp +decide only [go_sem];rfl;kernel_rfl))
  (apply fqb;simp +decide only [go_sem]<;>rfl)
theorem c5a (most tests:Int):sem L.env Mf 37 [.nilslice,.func (.func 38) [] [.ptr 0 0 0,.ptr 3 0 0]] [some (.row 3 [[.slice 1 0 0 (some 0),.slice 2 0 0 (some 0),.int .i64 tests]]),some (.row 1 []),some (.row 1 []),some (.row 1 [[.int .i64 most]])] = some (.nilslice,[some (.row 3 [[.slice 1 0 0 (some 0),.slice 2 0 0 (some 0),.int .i64 tests]]),some (.row 1 []),some (.row 1 []),some (.row 1 [[.int .i64 most]])]):=by
 have hc:=a1c (sem L.env Mf 55) [.nilslice,.func (.func 38) [] [.ptr 0 0 0,.ptr 3 0 0]] [some (.row 3 [[.slice 1 0 0 (some 0),.slice 2 0 0 (some 0),.int .i64 tests]]),some (.row 1 []),some (.row 1 []),some (.row 1 [[.int .i64 most]])] (σ:=[0,1,2,3]) (by simp +decide only [go_sem]) rfl rfl (args':=[.nilslice,.func (.func 38) [] [.ptr 0 0 0,.ptr 3 0 0]]) rfl (H0:=[some (.row 3 [[.slice 1 0 0 (some 0),.slice 2 0 0 (some 0),.int .i64 tests]]),some (.row 1 []),some (.row 1 []),some (.row 1 [[.int .i64 most]])]) rfl (c8x most tests)
 have hcall:a0c L.env false (sem L.env Mf) (.func (.func 55) [] []) [.nilslice,.func (.func 38) [] [.ptr 0 0 0,.ptr 3 0 0]] [some (.row 3 [[.slice 1 0 0 (some 0),.slice 2 0 0 (some 0),.int .i64 tests]]),some (.row 1 []),some (.row 1 []),some (.row 1 [[.int .i64 most]])] = some (.int .i64 (-1),[some (.row 3 [[.slice 1 0 0 (some 0),.slice 2 0 0 (some 0),.int .i64 tests]]),some (.row 1 []),some (.row 1 []),some (.row 1 [[.int .i64 most]])],[0,1,2,3]):=a2u (by kernel_rfl) (by kernel_rfl) rfl (hc.trans (by simp +decide only [go_sem]<;>rfl)) rfl
 (refine sv Tryz.f37 ?_;simp only [Tryz.f37,gS])
 (repeat first|simp only [ww]|(apply xa;simp +decide only [go_sem,hcall];rfl;kernel_rfl))
 (apply fqb;simp +decide only [go_sem]<;>rfl)
theorem b9i (A C Y:AObj) (most tests:Int):a0c L.env false (sem L.env Mf) (.func (.func 37) [] []) [.nilslice,.func (.func 38) [] [.ptr 3 0 0,.ptr 1 0 0]]
 [some A,some (.row 1 [[.int .i64 most]]),some C,some (.row 3 [[.slice 4 0 0 (some 0),.slice 5 0 0 (some 0),.int .i64 tests]]),some (.row 1 []),some (.row 1 []),some Y] =
 some (.nilslice,[some A,some (.row 1 [[.int .i64 most]]),some C,some (.row 3 [[.slice 4 0 0 (some 0),.slice 5 0 0 (some 0),.int .i64 tests]]),some (.row 1 []),some (.row 1 []),some Y],[3,4,5,1]):=by
 have hc:=a1c (sem L.env Mf 37) [.nilslice,.func (.func 38) [] [.ptr 3 0 0,.ptr 1 0 0]] [some A,some (.row 1 [[.int .i64 most]]),some C,some (.row 3 [[.slice 4 0 0 (some 0),.slice 5 0 0 (some 0),.int .i64 tests]]),some (.row 1 []),some (.row 1 []),some Y] (σ:=[3,4,5,1]) (by simp +decide only [go_sem]) rfl rfl (args':=[.nilslice,.func (.func 38) [] [.ptr 0 0 0,.ptr 3 0 0]]) rfl (H0:=[some (.row 3 [[.slice 1 0 0 (some 0),.slice 2 0 0 (some 0),.int .i64 tests]]),some (.row 1 []),some (.row 1 []),some (.row 1 [[.int .i64 most]])]) rfl (c5a most tests)
 exact a2u (by kernel_rfl) (by kernel_rfl) rfl (hc.trans (by simp +decide only [go_sem]<;>rfl)) rfl
theorem d2j (c:Cir) (h:c.wf) (rl rt:Rep) (ts:List Pat) (most:Int) (htl:ts.length ≤ 100) (hp:∀ p ∈ ts,PatOk c.nodes p) (ord:List Nat) (hop:ord.Perm (List.range c.nodes.length))
 (hst:∀ (d:Bool) (H:a05),a0c L.env d (sem L.env Mf) (.func (.func 51) [] []) [.agg c.enc] H = some (.agg (a58 c ord net0V pin0V),H,[])) :
 sem L.env Mf 21 [.agg c.enc,sl rl [],sl rt (ts.map Pat.enc),.int .i64 most] [] = some (.agg [.islice [] (some 0),.islice [] (some 0),.int .i64 ts.length],[]):=by
 have hce:c.enc = [sl c.nc (c.nodes.map Nd.enc),sl c.mc (c.names.map a1r),.nilslice,sl c.oc (c.outs.map a0d)]:=rfl
 have hbl:=fun A B C=>b61 A B C 0 ts.length (by omega)
 simp only [List.replicate_zero] at hbl
 have hpk:=fun (d:Bool) H=>a03 (E:=L.env) (draw:=d) (call:=sem L.env Mf) (g:=33) (fs:=[]) (cs:=[]) (ar:=[sl rl [],.nilslice]) (H:=H) (by kernel_rfl) (by kernel_rfl) rfl (by simp +decide only [go_sem]) (d29 [] rl) rfl
 rw [hce]
 have hq1:IntKind.i64.wrap ((ts.length:Int) + 64) = ((ts.length + 64:Nat):Int):=by rw [w64 (by omega) (by omega)];omega
 have hq2:IntKind.i64.wrap (((ts.length + 64:Nat):Int) - 1) = ((ts.length + 63:Nat):Int):=by rw [w64 (by omega) (by omega)];omega
 have hq3:IntKind.i64.wrap (((ts.length + 63) / 64:Nat):Int) = (((ts.length + 63) / 64:Nat):Int):=w64 (by omega) (by omega)
 (refine sv Tryz.f21 ?_;simp only [Tryz.f21,gS])
 (repeat first|simp only [ww]|(apply xa;simp +decide only [go_sem,hbl,List.length_map];rfl;kernel_rfl))
 refine a0s (m:=0) (σ:=Nat) kp21_0 (fun i=>[(1,sl rl []),(2,sl rt (ts.map Pat.enc)),(4,.ptr 0 0 0),(7,.ptr 1 0 0),(8,.ptr 2 0 0),(9,.ptr 3 0 0),(10,.nilslice),(25,.int .i64 0),(26,.int .i64 0)])
  (fun i=>[some (.row 4 [[sl c.nc (c.nodes.map Nd.enc),sl c.mc (c.names.map a1r),.nilslice,sl c.oc (c.outs.map a0d)]]),some (.row 1 [[.int .i64 most]]),some (.row 3 [[.nilslice,.nilslice,.int .i64 0]]),some (.row 3 [[.slice 4 0 0 (some 0),.slice 5 0 0 (some 0),.int .i64 ts.length]]),some (.row 1 []),some (.row 1 [])]) (fun i=>0) (fun i=>True) 0 ?_ trivial ?_
 ·(simp +decide only [go_sem,a01,a00]<;>rfl)<;>rfl
 ·intro i _
  (repeat first|simp only [ww]|(apply xa;simp +decide only [go_sem,hq1,hq2,hq3,List.length_map];rfl;kernel_rfl))
  obtain ⟨w,hw⟩:∃ w,w = (ts.length + 63) / 64:=⟨_,rfl⟩
  rw [← hw]
  refine a0s (m:=0) (σ:=Nat) kp21_2 (fun b=>[(1,sl rl []),(2,sl rt (ts.map Pat.enc)),(4,.ptr 0 0 0),(7,.ptr 1 0 0),(8,.ptr 2 0 0),(9,.ptr 3 0 0),(10,.nilslice),(38,.int .i64 w),(39,.int .i64 b)]) (fun b=>[some (.row 4 [[sl c.nc (c.nodes.map Nd.enc),sl c.mc (c.names.map a1r),.nilslice,sl c.oc (c.outs.map a0d)]]),some (.row 1 [[.int .i64 most]]),some (.row 3 [[.nilslice,.nilslice,.int .i64 0]]),some (.row 3 [[.slice 4 0 0 (some 0),.slice 5 0 0 (some 0),.int .i64 ts.length]]),some (.row 1 []),some (.row 1 [])]) (fun b=>w - b) (fun b=>b ≤ w) 0 ?_ (Nat.zero_le _) ?_
  ·(simp +decide only [go_sem,a01,a00]<;>rfl)<;>rfl
  ·intro b hb
   by_cases hbw:b < w
   ·have c1:(b:Int) < w:=by omega
    have hbT:64 * b < ts.length:=by omega
    have hwb:=wI1 (n:=b) (by omega)
    have hwm:IntKind.i64.wrap ((b:Int) * 64) = ((64 * b:Nat):Int):=by rw [w64 (by omega) (by omega)];omega
    have hw64:IntKind.i64.wrap (((64 * b:Nat):Int) + 64) = ((64 * (b + 1):Nat):Int):=by rw [w64 (by omega) (by omega)];omega
    have hmn:(if (ts.length:Int) < ((64 * (b + 1):Nat):Int) then (ts.length:Int) else ((64 * (b + 1):Nat):Int)) = ((min (64 * b + 64) ts.length:Nat):Int):=by split<;>omega
    have hi1:inB ((min (64 * b + 64) ts.length:Nat):Int) ts.length = true:=b5m (by omega)
    have hi2:inB ((64 * b:Nat):Int) (min (64 * b + 64) ts.length) = true:=b5m (by omega)
    have hal1:(ts.map Pat.enc).all (fun r=>decide (r.length = 2)) = true:=by simp [Pat.enc]
    obtain ⟨rp,hrp⟩:=c6o rt (ts.map Pat.enc) (64 * b) (min (64 * b + 64) ts.length)
    rw [← List.map_take,← List.map_drop,b7n ts b hbT] at hrp
    have htab:=fun (d:Bool) H=>a8p (d:=d) H c h (some (some 0)) rp [] (a3s ts b) (by simp) (Nat.le_trans (a7a ts b) (by omega)) (fun f hf'=>by simp at hf') (fun p hp'=>hp p (a8j hp')) ord hop hst
    rw [a6j,hce] at htab
    have ht0:(a5t c ord [] (a3s ts b)).map c6x = []:=rfl
    simp only [ht0,List.map_nil,List.length_nil] at htab
    have hdel:=fun Y=>b9i (.row 4 [[sl c.nc (c.nodes.map Nd.enc),sl c.mc (c.names.map a1r),.nilslice,sl c.oc (c.outs.map a0d)]]) (.row 3 [[.nilslice,.nilslice,.int .i64 0]]) Y most ts.length
    (repeat first|simp only [ww]|(apply xa;simp +decide only [go_sem,c1,hwm,hw64,hmn,hi1,hi2,hal1,hrp,e0b,hpk,htab,List.length_map];rfl;kernel_rfl))
    refine a0s (m:=0) (σ:=Nat) kp21_4 (fun k=>[(1,sl rl []),(2,sl rt (ts.map Pat.enc)),(4,.ptr 0 0 0),(7,.ptr 1 0 0),(8,.ptr 2 0 0),(9,.ptr 3 0 0),(10,.nilslice),(13,.int .i64 (64 * b:Nat)),(14,sl rp ((a3s ts b).map Pat.enc)),(15,.ptr 6 0 0),(38,.int .i64 w),(39,.int .i64 b),(61,.nilslice),(62,.int .i64 0),(63,.int .i64 0)])
     (fun k=>[some (.row 4 [[sl c.nc (c.nodes.map Nd.enc),sl c.mc (c.names.map a1r),.nilslice,sl c.oc (c.outs.map a0d)]]),some (.row 1 [[.int .i64 most]]),some (.row 3 [[.nilslice,.nilslice,.int .i64 0]]),some (.row 3 [[.slice 4 0 0 (some 0),.slice 5 0 0 (some 0),.int .i64 ts.length]]),some (.row 1 []),some (.row 1 []),some (.row 1 [[.islice [] (some 0)]])]) (fun k=>0) (fun k=>True) 0 ?_ trivial ?_
    ·(simp +decide only [go_sem,a01,a00]<;>rfl)<;>rfl
    ·intro k _
     (repeat first|simp only [ww]|(apply xa;simp +decide only [go_sem,hdel,hwb];rfl;kernel_rfl))
     refine a1w (b + 1) ?_ (by omega) (by omega)
     (simp +decide only [go_sem,a01,a00]<;>rfl)<;>rfl
   ·obtain rfl:w = b:=by omega
    have c1:¬ (w:Int) < w:=by omega
    (repeat first|simp only [ww]|(apply xa;simp +decide only [go_sem,c1];rfl;kernel_rfl))
    (apply fqb;simp +decide only [go_sem]<;>rfl)
open Go.Proofs Go.Ax Go.Pc
set_option maxRecDepth 100000
theorem c0y (c:Cir) (rl rt:Rep) (A B:List (List AV)) (x:List AV) (hx:a0e x = []):a0e ([.agg c.enc,sl rl A,sl rt B] ++ x) = []:=by
 simp only [List.cons_append,List.nil_append,a09,a0y,Cir.enc,go_sem,hx]
theorem c80 {d:Bool} (H:a05) (most:Int) (hm1:1 ≤ most) (hm2:most < 9223372036854775808) (c:Cir) (h:c.wf) (rl rt:Rep) (l:List Flt) (ts:List Pat) (hll:l.length ≤ 80) (htl:ts.length ≤ 100) (hf:∀ f ∈ l,FltOk c.nodes f) (hp:∀ p ∈ ts,PatOk c.nodes p) (ord:List Nat) (hop:ord.Perm (List.range c.nodes.length)) (hst:∀ (d:Bool) (H:a05),a0c L.env d (sem L.env Mf) (.func (.func 51) [] []) [.agg c.enc] H = some (.agg (a58 c ord net0V pin0V),H,[])) :
 a0c L.env d (sem L.env Mf) (.func (.func 21) [] []) [.agg c.enc,sl rl (l.map Flt.enc),sl rt (ts.map Pat.enc),.int .i64 most] H = some (.agg [.islice (a9t most (c0d c ord l ts) l.length fun _=>ts.length) (some l.length),.islice (a9v most (c0d c ord l ts) l.length fun _=>ts.length) (some l.length),.int .i64 ts.length],H,[]):=by
 have hr:=c0y c rl rt (l.map Flt.enc) (ts.map Pat.enc) [.int .i64 most] rfl
 rcases Nat.eq_zero_or_pos l.length with h0|h0
 ·obtain rfl:=List.length_eq_zero_iff.1 h0
  exact a03 (by kernel_rfl) (by kernel_rfl) rfl hr (d2j c h rl rt ts most htl hp ord hop hst) rfl
 ·exact a03 (by kernel_rfl) (by kernel_rfl) rfl hr (d8f c h rl rt l ts most hm1 hm2 h0 hll htl hf hp ord hop hst) rfl
theorem d2p (c:Cir) (h:c.wf) (rl rt:Rep) (l:List Flt) (ts:List Pat) (hll:l.length ≤ 80) (htl:ts.length ≤ 100) (hf:∀ f ∈ l,FltOk c.nodes f) (hp:∀ p ∈ ts,PatOk c.nodes p) (ord:List Nat) (hop:ord.Perm (List.range c.nodes.length)) (hst:∀ (d:Bool) (H:a05),a0c L.env d (sem L.env Mf) (.func (.func 51) [] []) [.agg c.enc] H = some (.agg (a58 c ord net0V pin0V),H,[])) :
 sem L.env Mf 20 [.agg c.enc,sl rl (l.map Flt.enc),sl rt (ts.map Pat.enc)] [] = some (.int .i64 0,[]):=by
 have hce:c.enc = [sl c.nc (c.nodes.map Nd.enc),sl c.mc (c.names.map a1r),.nilslice,sl c.oc (c.outs.map a0d)]:=rfl
 have h1:=fun (d:Bool) H=>a8p (d:=d) H c h rl none l [] (by omega) (by simp) hf (fun p hp'=>by simp at hp') ord hop hst
 have h2:=fun (d:Bool) H=>a8p (d:=d) H c h none rt [] ts (by simp) (by omega) (fun f hf'=>by simp at hf') hp ord hop hst
 have e0:sl none (List.map Pat.enc []) = .nilslice:=rfl
 have e1:sl none (List.map Flt.enc []) = .nilslice:=rfl
 rw [e0,hce] at h1
 rw [e1,hce] at h2
 have c1:¬ (4096:Int) < ts.length:=by omega
 rw [hce]
 by_cases ht:ts = []
 ·subst ht
  (refine sv Tryz.f20 ?_;simp only [Tryz.f20,gS])
  (repeat first|simp only [ww]|(apply xa;simp +decide only [go_sem,h1,h2,List.length_map,List.map_nil];rfl;kernel_rfl))
  (apply fqb;simp +decide only [go_sem]<;>rfl)
 ·have c2:¬ (ts.length:Int) = 0:=fun e=>ht (List.length_eq_zero_iff.1 (by omega))
  (refine sv Tryz.f20 ?_;simp only [Tryz.f20,gS])
  (repeat first|simp only [ww]|(apply xa;simp +decide only [go_sem,c1,c2,h1,h2,List.length_map];rfl;kernel_rfl))
  (apply fqb;simp +decide only [go_sem]<;>rfl)
theorem e39 (c:Cir) (h:c.wf) (rl rt:Rep) (l:List Flt) (ts:List Pat) (hll:l.length ≤ 80) (htl:ts.length ≤ 100) (hf:∀ f ∈ l,FltOk c.nodes f) (hp:∀ p ∈ ts,PatOk c.nodes p) (ord:List Nat) (hop:ord.Perm (List.range c.nodes.length)) (hst:∀ (d:Bool) (H:a05),a0c L.env d (sem L.env Mf) (.func (.func 51) [] []) [.agg c.enc] H = some (.agg (a58 c ord net0V pin0V),H,[])) (most:Int) (hmo:most = ts.length + 1) :
 sem L.env Mf 9 [.agg c.enc,sl rl (l.map Flt.enc),sl rt (ts.map Pat.enc)] [] = some (.tuple [.agg [.islice (a9t most (c0d c ord l ts) l.length fun _=>ts.length) (some l.length),.islice (a9v most (c0d c ord l ts) l.length fun _=>ts.length) (some l.length),.int .i64 ts.length],.int .i64 0],[]):=by
 have hce:c.enc = [sl c.nc (c.nodes.map Nd.enc),sl c.mc (c.names.map a1r),.nilslice,sl c.oc (c.outs.map a0d)]:=rfl
 have hck:=fun H=>a03 (E:=L.env) (draw:=false) (call:=sem L.env Mf) (g:=20) (fs:=[]) (cs:=[]) (ar:=[.agg c.enc,sl rl (l.map Flt.enc),sl rt (ts.map Pat.enc)]) (H:=H) (by kernel_rfl) (by kernel_rfl) rfl (c0y c rl rt _ _ [] rfl) (d2p c h rl rt l ts hll htl hf hp ord hop hst) rfl
 have hmd:=fun H=>c80 (d:=false) H most (by omega) (by omega) c h rl rt l ts hll htl hf hp ord hop hst
 rw [hce] at hck hmd ⊢
 have hw:IntKind.i64.wrap ((ts.length:Int) + 1) = most:=by rw [hmo];exact w64 (by omega) (by omega)
 (refine sv Tryz.f9 ?_;simp only [Tryz.f9,gS])
 (repeat first|simp only [ww]|(apply xa;simp +decide only [go_sem,hck,hmd,hw,List.length_map];rfl;kernel_rfl))
 (apply fqb;simp +decide only [go_sem]<;>rfl)
theorem d2m {d:Bool} (H:a05) (c:Cir) (h:c.wf) (rl rt:Rep) (l:List Flt) (ts:List Pat) (hll:l.length ≤ 80) (htl:ts.length ≤ 100) (hf:∀ f ∈ l,FltOk c.nodes f) (hp:∀ p ∈ ts,PatOk c.nodes p) (ord:List Nat) (hop:ord.Perm (List.range c.nodes.length)) (hst:∀ (d:Bool) (H:a05),a0c L.env d (sem L.env Mf) (.func (.func 51) [] []) [.agg c.enc] H = some (.agg (a58 c ord net0V pin0V),H,[])) (most:Int) (hmo:most = ts.length + 1) :
 a0c L.env d (sem L.env Mf) (.func (.func 9) [] []) [.agg c.enc,sl rl (l.map Flt.enc),sl rt (ts.map Pat.enc)] H = some (.tuple [.agg [.islice (a9t most (c0d c ord l ts) l.length fun _=>ts.length) (some l.length),.islice (a9v most (c0d c ord l ts) l.length fun _=>ts.length) (some l.length),.int .i64 ts.length],.int .i64 0],H,[]):=
 a03 (by kernel_rfl) (by kernel_rfl) rfl (c0y c rl rt _ _ [] rfl) (e39 c h rl rt l ts hll htl hf hp ord hop hst most hmo) rfl
end Go.MInst
