/- Patterns as rows. -/
import Derived.Test.YtgmenpackpnmaaaGreatDoorMPa
import Derived.Test.YtgmenpackpnmaaaGreatDoorPcB
import Derived.Test.YtgmenpackpnmaaaGreatDoorMGa
set_option linter.unusedSimpArgs false
set_option linter.unusedVariables false
namespace Go.MInst
open Go.Proofs Go.Ax Go.Pc
theorem b6l (l:List Pat):FlatR (l.map Pat.enc):=FlatR.map fun p=>by simp only [Pat.enc,a0c,a3d,a2r,List.append_nil]
set_option maxRecDepth 100000
theorem b7v {ps:List Pat} (hpl:ps.length ≤ 64) {j:Nat} {p:Pat} (hj:ps[j]? = some p) (sel:Pat → List Nat) (n:Nat) (hn:(sel p).length = n):(a4w (ps.map sel) n).map (a30 j) = (sel p).map a2n:=by
 have hjl:=(List.getElem?_eq_some_iff.1 hj).1
 unfold a4w
 rw [List.map_map]
 apply List.ext_getElem?
 intro i
 rw [List.getElem?_map,List.getElem?_map]
 by_cases hi:i < n
 ·rw [List.getElem?_range hi]
  obtain ⟨v,hv⟩:∃ v,(sel p)[i]? = some v:=⟨_,z9e (by omega)⟩
  rw [hv]
  simp only [Option.map_some,Function.comp]
  congr 1
  unfold c3a
  rw [a9q (by omega) _ _ _ (by simp;omega),if_pos (by simp;omega)]
  congr 1
  rw [List.map_map,Nat.sub_zero,List.getD_eq_getElem?_getD,List.getElem?_map,hj]
  simp [hv]
 ·rw [List.getElem?_eq_none (by simpa using hi),List.getElem?_eq_none (by omega)];rfl
theorem c1p {n j:Nat} (hn:n < 64) (hj:j < 64):(BitVec.ofInt 64 1 <<< n - BitVec.ofInt 64 1).getLsbD j = decide (j < n):=by
 have e:∀ n:Fin 64,∀ j:Fin 64,(BitVec.ofInt 64 1 <<< n.val - BitVec.ofInt 64 1).getLsbD j.val = decide (j.val < n.val):=by decide +kernel
 exact e ⟨n,hn⟩ ⟨j,hj⟩
theorem d72 (c:Cir) (ord:List Nat) (f:Flt) (ps:List Pat) (hp:∀ p ∈ ps,PatOk c.nodes p) (hpl:ps.length ≤ 64) (j:Nat) (p:Pat) (hj:ps[j]? = some p):(b41 c ord f ps).getLsbD j = (a2i c ord).det f p:=by
 have hjl:=(List.getElem?_eq_some_iff.1 hj).1
 have hpm:=hp p (List.mem_of_getElem? hj)
 have hr:(b50 c ord f (c9p c ps) (c9o c ps)).getLsbD j = (a2i c ord).det f p:=
  d2b (a2i c ord) (by omega) f p (c9p c ps) (c9o c ps) (b7v hpl hj Pat.ins _ hpm.ins) (b7v hpl hj Pat.sts _ hpm.sts) _ (d6z f _)
 unfold b41
 split
 ·rename_i h64
  rw [BitVec.getLsbD_and,hr,c1p h64 (by omega),decide_eq_true hjl,Bool.and_true]
 ·exact hr
theorem d70 (c:Cir) (ord:List Nat) (f:Flt) (ps:List Pat) (j:Nat) (hj:ps.length ≤ j) (hj2:j < 64):(b41 c ord f ps).getLsbD j = false:=by
 unfold b41
 split
 ·rename_i h64
  rw [BitVec.getLsbD_and,c1p h64 hj2,decide_eq_false (by omega),Bool.and_false]
 ·omega
theorem b8u {tests:List Pat} {t q:Nat} (h:q < 64):(a3k tests t)[q]? = tests[64 * t + q]?:=by
 unfold a3k;rw [List.getElem?_take,if_pos h,List.getElem?_drop]
theorem d5x (c:Cir) (ord:List Nat) (f:Flt) (tests:List Pat) (hp:∀ p ∈ tests,PatOk c.nodes p) (j:Nat):(b41 c ord f (a3k tests (j / 64))).getLsbD (j % 64) = match tests[j]? with
 | some p=>(a2i c ord).det f p
 | none=>false:=by
 have hg:(a3k tests (j / 64))[j % 64]? = tests[j]?:=by rw [b8u (Nat.mod_lt _ (by omega))];congr 1;omega
 cases hj:tests[j]? with
 | some p=>
  rw [hj] at hg
  exact d72 c ord f _ (fun p hp'=>hp p (a88 hp')) (a6w _ _) _ p hg
 | none=>
  rw [hj] at hg
  exact d70 c ord f _ _ (List.getElem?_eq_none_iff.1 hg) (Nat.mod_lt _ (by omega))
theorem d58 {c:Cir} {ord:List Nat} {l:List Flt} {tests:List Pat} {i:Nat} {f:Flt} (h:l[i]? = some f):(b3x c ord l tests)[i]? = some ((List.range ((tests.length + 63) / 64)).map fun t=>b41 c ord f (a3k tests t)):=by
 unfold b3x;rw [List.getElem?_map,h];rfl
def c5m (r:Rep × List (BitVec 64)):List AV:=[sl r.1 (r.2.map b3v)]
attribute [go_sem] c5m b3v List.length_map List.getElem?_map
def atB (rows:List (Rep × List (BitVec 64))) (i k:Int):Bool:=
 if 0 ≤ i ∧ 0 ≤ k then match rows[i.toNat]? with
  | some r=>match r.2[k.toNat / 64]? with
   | some w=>w.getLsbD (k.toNat % 64)
   | none=>false
  | none=>false
 else false
theorem e7s (c:Rep) (rows:List (Rep × List (BitVec 64))) (i k:Int) (hk:k < 9223372036854775808) :
 sem L.env Mf 36 [sl c (rows.map c5m),.int .i64 i,.int .i64 k] [] = some (.bool (atB rows i k),[]):=by
 by_cases hi:i < 0
 ·have e:atB rows i k = false:=by simp [atB];omega
  rw [e]
  (refine sv Tryz.f36 ?_;simp only [Tryz.f36,gS])
  (repeat first|simp only [ww]|(apply xa;simp +decide only [go_sem,hi];rfl;kernel_rfl))
  (apply fqb;simp +decide only [go_sem]<;>rfl)
 obtain ⟨a,rfl⟩:∃ a:Nat,i = a:=⟨i.toNat,by omega⟩
 by_cases ha:rows.length ≤ a
 ·have e:atB rows a k = false:=by
   simp only [atB,Int.toNat_natCast];rw [List.getElem?_eq_none ha];simp
  rw [e]
  have h2:(rows.length:Int) ≤ a:=by omega
  (refine sv Tryz.f36 ?_;simp only [Tryz.f36,gS])
  (repeat first|simp only [ww]|(apply xa;simp +decide only [go_sem,hi,h2];rfl;kernel_rfl))
  (apply fqb;simp +decide only [go_sem]<;>rfl)
 obtain ⟨r,hr⟩:∃ r,rows[a]? = some r:=⟨_,z9e (by omega)⟩
 have h2:¬ (rows.length:Int) ≤ a:=by omega
 by_cases hk0:k < 0
 ·have e:atB rows a k = false:=by simp [atB];omega
  rw [e]
  (refine sv Tryz.f36 ?_;simp only [Tryz.f36,gS])
  (repeat first|simp only [ww]|(apply xa;simp +decide only [go_sem,hi,h2,hk0];rfl;kernel_rfl))
  (apply fqb;simp +decide only [go_sem]<;>rfl)
 obtain ⟨n,rfl⟩:∃ n:Nat,k = n:=⟨k.toNat,by omega⟩
 have hq:IntKind.i64.wrap ((n / 64:Nat):Int) = ((n / 64:Nat):Int):=w64 (by omega) (by omega)
 by_cases hw:r.2.length ≤ n / 64
 ·have e:atB rows a n = false:=by
   simp only [atB,Int.toNat_natCast,hr];rw [List.getElem?_eq_none hw];simp
  rw [e]
  have h3:(r.2.length:Int) ≤ ((n / 64:Nat):Int):=by omega
  (refine sv Tryz.f36 ?_;simp only [Tryz.f36,gS])
  (repeat first|simp only [ww]|(apply xa;simp +decide only [go_sem,hi,h2,hk0,hr,hq,h3];rfl;kernel_rfl))
  (apply fqb;simp +decide only [go_sem]<;>rfl)
 ·obtain ⟨w,hw'⟩:∃ w,r.2[n / 64]? = some w:=⟨_,z9e (by omega)⟩
  have e:atB rows a n = w.getLsbD (n % 64):=by
   simp only [atB,Int.toNat_natCast,hr,hw'];simp
  rw [e]
  have h3:¬ (r.2.length:Int) ≤ ((n / 64:Nat):Int):=by omega
  have hm:(n:Int).tmod 64 = ((n % 64:Nat):Int):=rfl
  have hm0:¬ ((n % 64:Nat):Int) < 0:=by omega
  (refine sv Tryz.f36 ?_;simp only [Tryz.f36,gS])
  (repeat first|simp only [ww]|(apply xa;simp +decide only [go_sem,hi,h2,hk0,hr,hq,h3,hw',hm,hm0,d2v];rfl;kernel_rfl))
  (apply fqb;simp +decide only [go_sem]<;>rfl)
theorem d89 {d:Bool} (H:a06) (c:Rep) (rows:List (Rep × List (BitVec 64))) (i k:Int) (hk:k < 9223372036854775808) :
 a0e L.env d (sem L.env Mf) (.func (.func 36) [] []) [sl c (rows.map c5m),.int .i64 i,.int .i64 k] H = some (.bool (atB rows i k),H,[]):=
 a05 (by kernel_rfl) (by kernel_rfl) rfl (by simp only [go_sem]) (e7s c rows i k hk) rfl
theorem c3j {d:Bool} (H:a06):a0e L.env d (sem L.env Mf) (.func (.func 13) [] []) [] H = some (.bool true,H,[]):=
 a05 (by kernel_rfl) (by kernel_rfl) rfl rfl c6u rfl
def a5g (c:Cir) (ord:List Nat) (l:List Flt) (tests:List Pat):List (Rep × List (BitVec 64)):=(b3x c ord l tests).map fun r=>(some (some ((tests.length + 63) / 64)),r)
theorem b9j (c:Cir) (ord:List Nat) (l:List Flt) (tests:List Pat):(b3x c ord l tests).map (fun r=>[AV.islice (r.map b3v) (some ((tests.length + 63) / 64))]) = (a5g c ord l tests).map c5m:=by
 unfold a5g
 rw [List.map_map]
 exact List.map_congr_left fun r _=>by simp only [Function.comp,c5m,a2v]
theorem d8a (c:Cir) (ord:List Nat) (l:List Flt) (tests:List Pat) (hp:∀ p ∈ tests,PatOk c.nodes p) (i j:Nat) (f:Flt) (hf:l[i]? = some f):atB (a5g c ord l tests) i j = match tests[j]? with
 | some p=>(a2i c ord).det f p
 | none=>false:=by
 unfold atB
 rw [if_pos ⟨by omega,by omega⟩]
 simp only [Int.toNat_natCast]
 have hr:(a5g c ord l tests)[i]? = some (some (some ((tests.length + 63) / 64)),(List.range ((tests.length + 63) / 64)).map fun t=>b41 c ord f (a3k tests t)):=by
  unfold a5g;rw [List.getElem?_map,d58 hf];rfl
 rw [hr]
 simp only
 by_cases hw:j / 64 < (tests.length + 63) / 64
 ·rw [List.getElem?_map,List.getElem?_range hw]
  simp only [Option.map_some]
  exact d5x c ord f tests hp j
 ·rw [List.getElem?_eq_none (by simp;omega),List.getElem?_eq_none (by omega)]
end Go.MInst
/- Nothing here. -/
namespace Go.MInst
set_option maxHeartbeats 200000000
open Go.Proofs Go.Ax Go.Pc
set_option maxRecDepth 100000
structure CaseX where
 c:CX
 fr:Rep
 fs:List FX
 pr:Rep
 ps:List Pat
def CaseX.enc (x:CaseX):List AV:=x.c.enc ++ [sl x.fr (x.fs.map FX.enc),sl x.pr (x.ps.map Pat.enc)]
structure CaseX.ok (x:CaseX):Prop where
 c:x.c.ok
 fs:∀ f ∈ x.fs,f.ok
 ps:∀ p ∈ x.ps,PxOk p
theorem d82 (x:CaseX) (hx:x.ok) (hw:(a8s x.c).cir.wf):∃ r:AV × a06,(∃ (lr tr:Rep) (l:List Flt) (ts:List Pat),l.length ≤ 80 ∧ ts.length ≤ 100 ∧ (∀ f ∈ l,FltOk (a8s x.c).cir.nodes f) ∧ (∀ p ∈ ts,PatOk (a8s x.c).cir.nodes p) ∧ r = (.tuple [.agg (a8s x.c).cir.enc,sl lr (l.map Flt.enc),sl tr (ts.map Pat.enc)],[])) ∧ sem L.env Mf 8 [.agg x.enc] [] = some r:=by
 have hcc:=fun H=>b8t (d:=false) H x.c hx.c
 generalize (a8s x.c).cir = c at hcc hw ⊢
 simp only [CaseX.enc,CX.enc,List.cons_append,List.nil_append] at hcc ⊢
 simp only [Cir.enc] at hcc ⊢
 (refine svE Tryz.f8 ?_;simp only [Tryz.f8,gS])
 (repeat first|simp only [ww]|(apply xa;simp +decide only [go_sem,hcc];rfl;kernel_rfl))
 refine a24 kp8_0 (fun n F H=>∃ (i:Nat) (l:List Flt),n = 81 - i ∧ i ≤ x.fs.length ∧ i ≤ 80 ∧ l.length = i ∧ (∀ f ∈ l,FltOk c.nodes f) ∧ F = [(1,.ptr 0 0 0),(2,.ptr 1 0 0),(5,.ptr 2 0 0),(6,grV 3 (l.map Flt.enc)),(7,.int .i64 i)] ∧ H = [some (.row 14 [[.int .u8 x.c.inn,.int .u8 x.c.dffs,.int .u8 x.c.d0,.int .u8 x.c.d1,.bool x.c.bus,.bool x.c.mem,.int .u8 x.c.p0,.int .u8 x.c.p1,.int .u8 x.c.p2,.int .u8 x.c.p3,sl x.c.gc (x.c.gates.map GX.enc),sl x.c.oc (x.c.outs.map u8R),sl x.fr (x.fs.map FX.enc),sl x.pr (x.ps.map Pat.enc)]]),some (.row 4 [[.nilslice,.nilslice,.nilslice,.nilslice]]),some (.row 4 [[sl c.nc (c.nodes.map Nd.enc),sl c.mc (c.names.map a44),.nilslice,sl c.oc (c.outs.map a0n)]])] ++ grH 5 (l.map Flt.enc)) 81 ?_ ?_
 ·refine ⟨_,_,?_,0,[],rfl,Nat.zero_le _,by omega,rfl,fun f hf=>by simp at hf,rfl,rfl⟩
  (simp +decide only [go_sem,a02,a00,a0q,a0r,List.map_nil]<;>rfl)<;>rfl
 ·rintro n F H ⟨i,l,rfl,hi,hi2,hl,hlf,rfl,rfl⟩
  by_cases hlt:i < x.fs.length ∧ i < 80
  ·obtain ⟨h1,h2⟩:=hlt
   obtain ⟨f,hfi⟩:∃ f,x.fs[i]? = some f:=⟨_,z9e h1⟩
   have hfo:=hx.fs f (List.mem_of_getElem? hfi)
   have c1:(i:Int) < x.fs.length:=by omega
   have c2:(i:Int) < 80:=by omega
   have hwi:=wI1 (n:=i) (by omega)
   have hm4:(f.model:Int).tmod 4 = ((f.model % 4:Nat):Int):=rfl
   have hll:(l.map Flt.enc).length = i:=by rw [List.length_map];exact hl
   have hfT:=c7v l
   generalize hT:l.map Flt.enc = T at hll hfT
   by_cases hm:f.model % 4 = 1
   ·have cm:((f.model % 4:Nat):Int) = 1:=by omega
    obtain ⟨g,hg,hgc⟩:=c24 c hw { f with model:=0 } ⟨by show 0 < 256;omega,hfo.node,hfo.pin,hfo.other⟩ (by show 0 % 4 ≠ 1;omega)
    have hgc:=fun H=>hgc false H
    simp only [Cir.enc,FX.enc,Int.natCast_zero] at hgc
    have hT2:(l ++ [g]).map Flt.enc = T ++ [g.enc]:=by rw [List.map_append,hT];rfl
    have hl2:(l ++ [g]).length = i + 1:=by simp [hl]
    have hlf2:∀ f ∈ l ++ [g],FltOk c.nodes f:=by
     intro f hf;rcases List.mem_append.1 hf with h|h
     ·exact hlf f h
     ·rw [List.mem_singleton.1 h];exact hg
    have h1':=a03 hfT
    have h2':=fun π=>a01 π hfT
    cases T with
    | nil=>
     simp only [Flt.enc] at hgc
     (repeat first|simp only [ww]|(apply xa;simp +decide only [go_sem,c1,c2,h1,hfi,hm4,cm,hgc,hwi,a0q,a0r];rfl;kernel_rfl))
     refine a12 (81 - (i + 1)) (by omega) ⟨_,_,?_,i + 1,l ++ [g],rfl,h1,h2,hl2,hlf2,rfl,rfl⟩
     rw [hT2]
     (simp +decide only [go_sem,a02,a00,a0a,a0b,List.nil_append,List.length_nil,Flt.enc]<;>rfl)<;>rfl
    | cons a r=>
     simp only [List.length_cons] at hll
     have hrm:r.length + 1 + 1 ≤ 1000000000:=by omega
     simp only [List.flatMap_cons] at h1'
     simp only [List.map_cons,List.cons.injEq] at h2'
     simp only [Flt.enc] at hgc
     (repeat first|simp only [ww]|(apply xa;simp +decide only [go_sem,c1,c2,h1,hfi,hm4,cm,hgc,hwi,a0a,a0b,hrm];rfl;kernel_rfl))
     refine a12 (81 - (i + 1)) (by omega) ⟨_,_,?_,i + 1,l ++ [g],rfl,h1,h2,hl2,hlf2,rfl,rfl⟩
     rw [hT2]
     (simp +decide only [go_sem,a02,a00,a0a,a0b,List.cons_append,h1',h2',Flt.enc]<;>rfl)<;>rfl
   ·have cm:¬ ((f.model % 4:Nat):Int) = 1:=by omega
    obtain ⟨g,hg,hgc⟩:=c24 c hw f hfo hm
    have hgc:=fun H=>hgc false H
    simp only [Cir.enc,FX.enc] at hgc
    have hT2:(l ++ [g]).map Flt.enc = T ++ [g.enc]:=by rw [List.map_append,hT];rfl
    have hl2:(l ++ [g]).length = i + 1:=by simp [hl]
    have hlf2:∀ f ∈ l ++ [g],FltOk c.nodes f:=by
     intro f hf;rcases List.mem_append.1 hf with h|h
     ·exact hlf f h
     ·rw [List.mem_singleton.1 h];exact hg
    have h1':=a03 hfT
    have h2':=fun π=>a01 π hfT
    cases T with
    | nil=>
     simp only [Flt.enc] at hgc
     (repeat first|simp only [ww]|(apply xa;simp +decide only [go_sem,c1,c2,h1,hfi,hm4,cm,hgc,hwi,a0q,a0r];rfl;kernel_rfl))
     refine a12 (81 - (i + 1)) (by omega) ⟨_,_,?_,i + 1,l ++ [g],rfl,h1,h2,hl2,hlf2,rfl,rfl⟩
     rw [hT2]
     (simp +decide only [go_sem,a02,a00,a0a,a0b,List.nil_append,List.length_nil,Flt.enc]<;>rfl)<;>rfl
    | cons a r=>
     simp only [List.length_cons] at hll
     have hrm:r.length + 1 + 1 ≤ 1000000000:=by omega
     simp only [List.flatMap_cons] at h1'
     simp only [List.map_cons,List.cons.injEq] at h2'
     simp only [Flt.enc] at hgc
     (repeat first|simp only [ww]|(apply xa;simp +decide only [go_sem,c1,c2,h1,hfi,hm4,cm,hgc,hwi,a0a,a0b,hrm];rfl;kernel_rfl))
     refine a12 (81 - (i + 1)) (by omega) ⟨_,_,?_,i + 1,l ++ [g],rfl,h1,h2,hl2,hlf2,rfl,rfl⟩
     rw [hT2]
     (simp +decide only [go_sem,a02,a00,a0a,a0b,List.cons_append,h1',h2',Flt.enc]<;>rfl)<;>rfl
  ·have hd0:(¬ (i:Int) < x.fs.length) ∨ ((i:Int) < x.fs.length ∧ ¬ (i:Int) < 80):=by omega
   have hll:(l.map Flt.enc).length = i:=by rw [List.length_map];exact hl
   have hfT:=c7v l
   have h1':=a03 hfT
   have h2':=fun π=>a01 π hfT
   have hl80:l.length ≤ 80:=by omega
   clear hi hlt
   generalize hT:l.map Flt.enc = T at hll hfT h1' h2'
   cases T with
   | nil=>
    rcases hd0 with c1|⟨c1,c2⟩
    ·(repeat first|simp only [ww]|(apply xa;simp +decide only [go_sem,c1,a0q,a0r];rfl;kernel_rfl))
     refine a24 kp8_2 (fun n F H=>∃ (i:Nat) (ts:List Pat),n = 101 - i ∧ i ≤ x.ps.length ∧ i ≤ 100 ∧ ts.length = i ∧ (∀ p ∈ ts,PatOk c.nodes p) ∧ F = [(1,.ptr 0 0 0),(2,.ptr 1 0 0),(5,.ptr 2 0 0),(6,.nilslice),(9,grV 3 (ts.map Pat.enc)),(10,.int .i64 i)] ∧ H = [some (.row 14 [[.int .u8 x.c.inn,.int .u8 x.c.dffs,.int .u8 x.c.d0,.int .u8 x.c.d1,.bool x.c.bus,.bool x.c.mem,.int .u8 x.c.p0,.int .u8 x.c.p1,.int .u8 x.c.p2,.int .u8 x.c.p3,sl x.c.gc (x.c.gates.map GX.enc),sl x.c.oc (x.c.outs.map u8R),sl x.fr (x.fs.map FX.enc),sl x.pr (x.ps.map Pat.enc)]]),some (.row 4 [[.nilslice,.nilslice,.nilslice,.nilslice]]),some (.row 4 [[sl c.nc (c.nodes.map Nd.enc),sl c.mc (c.names.map a44),.nilslice,sl c.oc (c.outs.map a0n)]])] ++ grH 2 (ts.map Pat.enc)) 101 ?_ ?_
     ·refine ⟨_,_,?_,0,[],rfl,Nat.zero_le _,by omega,rfl,fun f hf=>by simp at hf,rfl,rfl⟩
      (simp +decide only [go_sem,a02,a00,a0q,a0r,List.map_nil]<;>rfl)<;>rfl
     ·rintro n F H ⟨i,ts,rfl,hi,hi2,hts,htf,rfl,rfl⟩
      have hll2:(ts.map Pat.enc).length = i:=by rw [List.length_map];exact hts
      have hfU:=b6l ts
      have u1:=a03 hfU
      have u2:=fun π=>a01 π hfU
      by_cases hlt:i < x.ps.length ∧ i < 100
      ·obtain ⟨q1,q2⟩:=hlt
       obtain ⟨p,hpi⟩:∃ p,x.ps[i]? = some p:=⟨_,z9e q1⟩
       have d1:(i:Int) < x.ps.length:=by omega
       have d2:(i:Int) < 100:=by omega
       have hwi:=wI1 (n:=i) (by omega)
       obtain ⟨g,hg,hgc⟩:=b1k c hw p (hx.ps p (List.mem_of_getElem? hpi))
       have hgc:=fun H=>hgc true H
       simp only [Cir.enc,Pat.enc] at hgc
       have hpe:Pat.enc p = [sl p.ic (p.ins.map u8R),sl p.sc (p.sts.map u8R)]:=rfl
       have hT2:(ts ++ [g]).map Pat.enc = ts.map Pat.enc ++ [g.enc]:=by rw [List.map_append];rfl
       have hl2:(ts ++ [g]).length = i + 1:=by simp [hts]
       have hlf2:∀ f ∈ ts ++ [g],PatOk c.nodes f:=by
        intro f hf;rcases List.mem_append.1 hf with h|h
        ·exact htf f h
        ·rw [List.mem_singleton.1 h];exact hg
       generalize ts.map Pat.enc = U at hll2 hfU u1 u2 hT2
       cases U with
       | nil=>
        (repeat first|simp only [ww]|(apply xa;simp +decide only [go_sem,d1,d2,q1,hpi,hpe,hgc,hwi,a0q,a0r];rfl;kernel_rfl))
        refine a12 (101 - (i + 1)) (by omega) ⟨_,_,?_,i + 1,ts ++ [g],rfl,q1,q2,hl2,hlf2,rfl,rfl⟩
        rw [hT2]
        (simp +decide only [go_sem,a02,a00,a0a,a0b,List.nil_append,List.length_nil,Pat.enc]<;>rfl)<;>rfl
       | cons a2 r2=>
        simp only [List.length_cons] at hll2
        have hrm2:r2.length + 1 + 1 ≤ 1000000000:=by omega
        simp only [List.flatMap_cons] at u1
        simp only [List.map_cons,List.cons.injEq] at u2
        (repeat first|simp only [ww]|(apply xa;simp +decide only [go_sem,d1,d2,q1,hpi,hpe,hgc,hwi,a0a,a0b,hrm2];rfl;kernel_rfl))
        refine a12 (101 - (i + 1)) (by omega) ⟨_,_,?_,i + 1,ts ++ [g],rfl,q1,q2,hl2,hlf2,rfl,rfl⟩
        rw [hT2]
        (simp +decide only [go_sem,a02,a00,a0a,a0b,List.cons_append,u1,u2,Pat.enc]<;>rfl)<;>rfl
      ·have hd:(¬ (i:Int) < x.ps.length) ∨ ((i:Int) < x.ps.length ∧ ¬ (i:Int) < 100):=by omega
       generalize hU:ts.map Pat.enc = U at hll2 hfU u1 u2
       cases U with
       | nil=>
        rcases hd with d1|⟨d1,d2⟩
        ·(repeat first|simp only [ww]|(apply xa;simp +decide only [go_sem,d1,a0q,a0r];rfl;kernel_rfl))
         refine a5v (vs:=_) (r:=(_,[])) (by simp +decide only [go_sem]<;>rfl) (by simp +decide only [go_sem]<;>rfl) ⟨none,none,l,ts,by omega,by omega,hlf,htf,by rw [hU,hT];rfl⟩
        ·(repeat first|simp only [ww]|(apply xa;simp +decide only [go_sem,d1,d2,a0q,a0r];rfl;kernel_rfl))
         refine a5v (vs:=_) (r:=(_,[])) (by simp +decide only [go_sem]<;>rfl) (by simp +decide only [go_sem]<;>rfl) ⟨none,none,l,ts,by omega,by omega,hlf,htf,by rw [hU,hT];rfl⟩
       | cons a2 r2=>
        have htkU:List.take (r2.length + 1) (a2 :: r2) = a2 :: r2:=List.take_length (l:=a2 :: r2)
        rcases hd with d1|⟨d1,d2⟩
        ·(repeat first|simp only [ww]|(apply xa;simp +decide only [go_sem,d1,a0a,a0b];rfl;kernel_rfl))
         refine a5v (vs:=_) (r:=(_,[])) (by simp +decide only [go_sem]<;>rfl) (by simp +decide only [go_sem,a0s _ _ hfU,htkU]<;>rfl) ⟨none,none,l,ts,by omega,by omega,hlf,htf,by rw [hU,hT];rfl⟩
        ·(repeat first|simp only [ww]|(apply xa;simp +decide only [go_sem,d1,d2,a0a,a0b];rfl;kernel_rfl))
         refine a5v (vs:=_) (r:=(_,[])) (by simp +decide only [go_sem]<;>rfl) (by simp +decide only [go_sem,a0s _ _ hfU,htkU]<;>rfl) ⟨none,none,l,ts,by omega,by omega,hlf,htf,by rw [hU,hT];rfl⟩
    ·(repeat first|simp only [ww]|(apply xa;simp +decide only [go_sem,c1,c2,a0q,a0r];rfl;kernel_rfl))
     refine a24 kp8_2 (fun n F H=>∃ (i:Nat) (ts:List Pat),n = 101 - i ∧ i ≤ x.ps.length ∧ i ≤ 100 ∧ ts.length = i ∧ (∀ p ∈ ts,PatOk c.nodes p) ∧ F = [(1,.ptr 0 0 0),(2,.ptr 1 0 0),(5,.ptr 2 0 0),(6,.nilslice),(9,grV 3 (ts.map Pat.enc)),(10,.int .i64 i)] ∧ H = [some (.row 14 [[.int .u8 x.c.inn,.int .u8 x.c.dffs,.int .u8 x.c.d0,.int .u8 x.c.d1,.bool x.c.bus,.bool x.c.mem,.int .u8 x.c.p0,.int .u8 x.c.p1,.int .u8 x.c.p2,.int .u8 x.c.p3,sl x.c.gc (x.c.gates.map GX.enc),sl x.c.oc (x.c.outs.map u8R),sl x.fr (x.fs.map FX.enc),sl x.pr (x.ps.map Pat.enc)]]),some (.row 4 [[.nilslice,.nilslice,.nilslice,.nilslice]]),some (.row 4 [[sl c.nc (c.nodes.map Nd.enc),sl c.mc (c.names.map a44),.nilslice,sl c.oc (c.outs.map a0n)]])] ++ grH 2 (ts.map Pat.enc)) 101 ?_ ?_
     ·refine ⟨_,_,?_,0,[],rfl,Nat.zero_le _,by omega,rfl,fun f hf=>by simp at hf,rfl,rfl⟩
      (simp +decide only [go_sem,a02,a00,a0q,a0r,List.map_nil]<;>rfl)<;>rfl
     ·rintro n F H ⟨i,ts,rfl,hi,hi2,hts,htf,rfl,rfl⟩
      have hll2:(ts.map Pat.enc).length = i:=by rw [List.length_map];exact hts
      have hfU:=b6l ts
      have u1:=a03 hfU
      have u2:=fun π=>a01 π hfU
      by_cases hlt:i < x.ps.length ∧ i < 100
      ·obtain ⟨q1,q2⟩:=hlt
       obtain ⟨p,hpi⟩:∃ p,x.ps[i]? = some p:=⟨_,z9e q1⟩
       have d1:(i:Int) < x.ps.length:=by omega
       have d2:(i:Int) < 100:=by omega
       have hwi:=wI1 (n:=i) (by omega)
       obtain ⟨g,hg,hgc⟩:=b1k c hw p (hx.ps p (List.mem_of_getElem? hpi))
       have hgc:=fun H=>hgc true H
       simp only [Cir.enc,Pat.enc] at hgc
       have hpe:Pat.enc p = [sl p.ic (p.ins.map u8R),sl p.sc (p.sts.map u8R)]:=rfl
       have hT2:(ts ++ [g]).map Pat.enc = ts.map Pat.enc ++ [g.enc]:=by rw [List.map_append];rfl
       have hl2:(ts ++ [g]).length = i + 1:=by simp [hts]
       have hlf2:∀ f ∈ ts ++ [g],PatOk c.nodes f:=by
        intro f hf;rcases List.mem_append.1 hf with h|h
        ·exact htf f h
        ·rw [List.mem_singleton.1 h];exact hg
       generalize ts.map Pat.enc = U at hll2 hfU u1 u2 hT2
       cases U with
       | nil=>
        (repeat first|simp only [ww]|(apply xa;simp +decide only [go_sem,d1,d2,q1,hpi,hpe,hgc,hwi,a0q,a0r];rfl;kernel_rfl))
        refine a12 (101 - (i + 1)) (by omega) ⟨_,_,?_,i + 1,ts ++ [g],rfl,q1,q2,hl2,hlf2,rfl,rfl⟩
        rw [hT2]
        (simp +decide only [go_sem,a02,a00,a0a,a0b,List.nil_append,List.length_nil,Pat.enc]<;>rfl)<;>rfl
       | cons a2 r2=>
        simp only [List.length_cons] at hll2
        have hrm2:r2.length + 1 + 1 ≤ 1000000000:=by omega
        simp only [List.flatMap_cons] at u1
        simp only [List.map_cons,List.cons.injEq] at u2
        (repeat first|simp only [ww]|(apply xa;simp +decide only [go_sem,d1,d2,q1,hpi,hpe,hgc,hwi,a0a,a0b,hrm2];rfl;kernel_rfl))
        refine a12 (101 - (i + 1)) (by omega) ⟨_,_,?_,i + 1,ts ++ [g],rfl,q1,q2,hl2,hlf2,rfl,rfl⟩
        rw [hT2]
        (simp +decide only [go_sem,a02,a00,a0a,a0b,List.cons_append,u1,u2,Pat.enc]<;>rfl)<;>rfl
      ·have hd:(¬ (i:Int) < x.ps.length) ∨ ((i:Int) < x.ps.length ∧ ¬ (i:Int) < 100):=by omega
       generalize hU:ts.map Pat.enc = U at hll2 hfU u1 u2
       cases U with
       | nil=>
        rcases hd with d1|⟨d1,d2⟩
        ·(repeat first|simp only [ww]|(apply xa;simp +decide only [go_sem,d1,a0q,a0r];rfl;kernel_rfl))
         refine a5v (vs:=_) (r:=(_,[])) (by simp +decide only [go_sem]<;>rfl) (by simp +decide only [go_sem]<;>rfl) ⟨none,none,l,ts,by omega,by omega,hlf,htf,by rw [hU,hT];rfl⟩
        ·(repeat first|simp only [ww]|(apply xa;simp +decide only [go_sem,d1,d2,a0q,a0r];rfl;kernel_rfl))
         refine a5v (vs:=_) (r:=(_,[])) (by simp +decide only [go_sem]<;>rfl) (by simp +decide only [go_sem]<;>rfl) ⟨none,none,l,ts,by omega,by omega,hlf,htf,by rw [hU,hT];rfl⟩
       | cons a2 r2=>
        have htkU:List.take (r2.length + 1) (a2 :: r2) = a2 :: r2:=List.take_length (l:=a2 :: r2)
        rcases hd with d1|⟨d1,d2⟩
        ·(repeat first|simp only [ww]|(apply xa;simp +decide only [go_sem,d1,a0a,a0b];rfl;kernel_rfl))
         refine a5v (vs:=_) (r:=(_,[])) (by simp +decide only [go_sem]<;>rfl) (by simp +decide only [go_sem,a0s _ _ hfU,htkU]<;>rfl) ⟨none,none,l,ts,by omega,by omega,hlf,htf,by rw [hU,hT];rfl⟩
        ·(repeat first|simp only [ww]|(apply xa;simp +decide only [go_sem,d1,d2,a0a,a0b];rfl;kernel_rfl))
         refine a5v (vs:=_) (r:=(_,[])) (by simp +decide only [go_sem]<;>rfl) (by simp +decide only [go_sem,a0s _ _ hfU,htkU]<;>rfl) ⟨none,none,l,ts,by omega,by omega,hlf,htf,by rw [hU,hT];rfl⟩
   | cons a r=>
    simp only [List.flatMap_cons] at h1'
    simp only [List.map_cons,List.cons.injEq] at h2'
    have htkT:List.take (r.length + 1) (a :: r) = a :: r:=List.take_length (l:=a :: r)
    rcases hd0 with c1|⟨c1,c2⟩
    ·(repeat first|simp only [ww]|(apply xa;simp +decide only [go_sem,c1,a0a,a0b];rfl;kernel_rfl))
     refine a24 kp8_2 (fun n F H=>∃ (i:Nat) (ts:List Pat),n = 101 - i ∧ i ≤ x.ps.length ∧ i ≤ 100 ∧ ts.length = i ∧ (∀ p ∈ ts,PatOk c.nodes p) ∧ F = [(1,.ptr 0 0 0),(2,.ptr 1 0 0),(5,.ptr 2 0 0),(6,.slice 3 0 (r.length + 1) none),(9,grV 4 (ts.map Pat.enc)),(10,.int .i64 i)] ∧ H = [some (.row 14 [[.int .u8 x.c.inn,.int .u8 x.c.dffs,.int .u8 x.c.d0,.int .u8 x.c.d1,.bool x.c.bus,.bool x.c.mem,.int .u8 x.c.p0,.int .u8 x.c.p1,.int .u8 x.c.p2,.int .u8 x.c.p3,sl x.c.gc (x.c.gates.map GX.enc),sl x.c.oc (x.c.outs.map u8R),sl x.fr (x.fs.map FX.enc),sl x.pr (x.ps.map Pat.enc)]]),some (.row 4 [[.nilslice,.nilslice,.nilslice,.nilslice]]),some (.row 4 [[sl c.nc (c.nodes.map Nd.enc),sl c.mc (c.names.map a44),.nilslice,sl c.oc (c.outs.map a0n)]]),some (.row 5 (a :: r))] ++ grH 2 (ts.map Pat.enc)) 101 ?_ ?_
     ·refine ⟨_,_,?_,0,[],rfl,Nat.zero_le _,by omega,rfl,fun f hf=>by simp at hf,rfl,rfl⟩
      (simp +decide only [go_sem,a02,a00,a0q,a0r,List.map_nil,h1',h2']<;>rfl)<;>rfl
     ·rintro n F H ⟨i,ts,rfl,hi,hi2,hts,htf,rfl,rfl⟩
      have hll2:(ts.map Pat.enc).length = i:=by rw [List.length_map];exact hts
      have hfU:=b6l ts
      have u1:=a03 hfU
      have u2:=fun π=>a01 π hfU
      by_cases hlt:i < x.ps.length ∧ i < 100
      ·obtain ⟨q1,q2⟩:=hlt
       obtain ⟨p,hpi⟩:∃ p,x.ps[i]? = some p:=⟨_,z9e q1⟩
       have d1:(i:Int) < x.ps.length:=by omega
       have d2:(i:Int) < 100:=by omega
       have hwi:=wI1 (n:=i) (by omega)
       obtain ⟨g,hg,hgc⟩:=b1k c hw p (hx.ps p (List.mem_of_getElem? hpi))
       have hgc:=fun H=>hgc true H
       simp only [Cir.enc,Pat.enc] at hgc
       have hpe:Pat.enc p = [sl p.ic (p.ins.map u8R),sl p.sc (p.sts.map u8R)]:=rfl
       have hT2:(ts ++ [g]).map Pat.enc = ts.map Pat.enc ++ [g.enc]:=by rw [List.map_append];rfl
       have hl2:(ts ++ [g]).length = i + 1:=by simp [hts]
       have hlf2:∀ f ∈ ts ++ [g],PatOk c.nodes f:=by
        intro f hf;rcases List.mem_append.1 hf with h|h
        ·exact htf f h
        ·rw [List.mem_singleton.1 h];exact hg
       generalize ts.map Pat.enc = U at hll2 hfU u1 u2 hT2
       cases U with
       | nil=>
        (repeat first|simp only [ww]|(apply xa;simp +decide only [go_sem,d1,d2,q1,hpi,hpe,hgc,hwi,a0q,a0r];rfl;kernel_rfl))
        refine a12 (101 - (i + 1)) (by omega) ⟨_,_,?_,i + 1,ts ++ [g],rfl,q1,q2,hl2,hlf2,rfl,rfl⟩
        rw [hT2]
        (simp +decide only [go_sem,a02,a00,a0a,a0b,List.nil_append,List.length_nil,Pat.enc,h1',h2']<;>rfl)<;>rfl
       | cons a2 r2=>
        simp only [List.length_cons] at hll2
        have hrm2:r2.length + 1 + 1 ≤ 1000000000:=by omega
        simp only [List.flatMap_cons] at u1
        simp only [List.map_cons,List.cons.injEq] at u2
        (repeat first|simp only [ww]|(apply xa;simp +decide only [go_sem,d1,d2,q1,hpi,hpe,hgc,hwi,a0a,a0b,hrm2];rfl;kernel_rfl))
        refine a12 (101 - (i + 1)) (by omega) ⟨_,_,?_,i + 1,ts ++ [g],rfl,q1,q2,hl2,hlf2,rfl,rfl⟩
        rw [hT2]
        (simp +decide only [go_sem,a02,a00,a0a,a0b,List.cons_append,u1,u2,Pat.enc,h1',h2']<;>rfl)<;>rfl
      ·have hd:(¬ (i:Int) < x.ps.length) ∨ ((i:Int) < x.ps.length ∧ ¬ (i:Int) < 100):=by omega
       generalize hU:ts.map Pat.enc = U at hll2 hfU u1 u2
       cases U with
       | nil=>
        rcases hd with d1|⟨d1,d2⟩
        ·(repeat first|simp only [ww]|(apply xa;simp +decide only [go_sem,d1,a0q,a0r];rfl;kernel_rfl))
         refine a5v (vs:=_) (r:=(_,[])) (by simp +decide only [go_sem]<;>rfl) (by simp +decide only [go_sem,a0s _ _ hfT,htkT]<;>rfl) ⟨none,none,l,ts,by omega,by omega,hlf,htf,by rw [hU,hT];rfl⟩
        ·(repeat first|simp only [ww]|(apply xa;simp +decide only [go_sem,d1,d2,a0q,a0r];rfl;kernel_rfl))
         refine a5v (vs:=_) (r:=(_,[])) (by simp +decide only [go_sem]<;>rfl) (by simp +decide only [go_sem,a0s _ _ hfT,htkT]<;>rfl) ⟨none,none,l,ts,by omega,by omega,hlf,htf,by rw [hU,hT];rfl⟩
       | cons a2 r2=>
        have htkU:List.take (r2.length + 1) (a2 :: r2) = a2 :: r2:=List.take_length (l:=a2 :: r2)
        rcases hd with d1|⟨d1,d2⟩
        ·(repeat first|simp only [ww]|(apply xa;simp +decide only [go_sem,d1,a0a,a0b];rfl;kernel_rfl))
         refine a5v (vs:=_) (r:=(_,[])) (by simp +decide only [go_sem]<;>rfl) (by simp +decide only [go_sem,a0s _ _ hfU,htkU,a0s _ _ hfT,htkT]<;>rfl) ⟨none,none,l,ts,by omega,by omega,hlf,htf,by rw [hU,hT];rfl⟩
        ·(repeat first|simp only [ww]|(apply xa;simp +decide only [go_sem,d1,d2,a0a,a0b];rfl;kernel_rfl))
         refine a5v (vs:=_) (r:=(_,[])) (by simp +decide only [go_sem]<;>rfl) (by simp +decide only [go_sem,a0s _ _ hfU,htkU,a0s _ _ hfT,htkT]<;>rfl) ⟨none,none,l,ts,by omega,by omega,hlf,htf,by rw [hU,hT];rfl⟩
    ·(repeat first|simp only [ww]|(apply xa;simp +decide only [go_sem,c1,c2,a0a,a0b];rfl;kernel_rfl))
     refine a24 kp8_2 (fun n F H=>∃ (i:Nat) (ts:List Pat),n = 101 - i ∧ i ≤ x.ps.length ∧ i ≤ 100 ∧ ts.length = i ∧ (∀ p ∈ ts,PatOk c.nodes p) ∧ F = [(1,.ptr 0 0 0),(2,.ptr 1 0 0),(5,.ptr 2 0 0),(6,.slice 3 0 (r.length + 1) none),(9,grV 4 (ts.map Pat.enc)),(10,.int .i64 i)] ∧ H = [some (.row 14 [[.int .u8 x.c.inn,.int .u8 x.c.dffs,.int .u8 x.c.d0,.int .u8 x.c.d1,.bool x.c.bus,.bool x.c.mem,.int .u8 x.c.p0,.int .u8 x.c.p1,.int .u8 x.c.p2,.int .u8 x.c.p3,sl x.c.gc (x.c.gates.map GX.enc),sl x.c.oc (x.c.outs.map u8R),sl x.fr (x.fs.map FX.enc),sl x.pr (x.ps.map Pat.enc)]]),some (.row 4 [[.nilslice,.nilslice,.nilslice,.nilslice]]),some (.row 4 [[sl c.nc (c.nodes.map Nd.enc),sl c.mc (c.names.map a44),.nilslice,sl c.oc (c.outs.map a0n)]]),some (.row 5 (a :: r))] ++ grH 2 (ts.map Pat.enc)) 101 ?_ ?_
     ·refine ⟨_,_,?_,0,[],rfl,Nat.zero_le _,by omega,rfl,fun f hf=>by simp at hf,rfl,rfl⟩
      (simp +decide only [go_sem,a02,a00,a0q,a0r,List.map_nil,h1',h2']<;>rfl)<;>rfl
     ·rintro n F H ⟨i,ts,rfl,hi,hi2,hts,htf,rfl,rfl⟩
      have hll2:(ts.map Pat.enc).length = i:=by rw [List.length_map];exact hts
      have hfU:=b6l ts
      have u1:=a03 hfU
      have u2:=fun π=>a01 π hfU
      by_cases hlt:i < x.ps.length ∧ i < 100
      ·obtain ⟨q1,q2⟩:=hlt
       obtain ⟨p,hpi⟩:∃ p,x.ps[i]? = some p:=⟨_,z9e q1⟩
       have d1:(i:Int) < x.ps.length:=by omega
       have d2:(i:Int) < 100:=by omega
       have hwi:=wI1 (n:=i) (by omega)
       obtain ⟨g,hg,hgc⟩:=b1k c hw p (hx.ps p (List.mem_of_getElem? hpi))
       have hgc:=fun H=>hgc true H
       simp only [Cir.enc,Pat.enc] at hgc
       have hpe:Pat.enc p = [sl p.ic (p.ins.map u8R),sl p.sc (p.sts.map u8R)]:=rfl
       have hT2:(ts ++ [g]).map Pat.enc = ts.map Pat.enc ++ [g.enc]:=by rw [List.map_append];rfl
       have hl2:(ts ++ [g]).length = i + 1:=by simp [hts]
       have hlf2:∀ f ∈ ts ++ [g],PatOk c.nodes f:=by
        intro f hf;rcases List.mem_append.1 hf with h|h
        ·exact htf f h
        ·rw [List.mem_singleton.1 h];exact hg
       generalize ts.map Pat.enc = U at hll2 hfU u1 u2 hT2
       cases U with
       | nil=>
        (repeat first|simp only [ww]|(apply xa;simp +decide only [go_sem,d1,d2,q1,hpi,hpe,hgc,hwi,a0q,a0r];rfl;kernel_rfl))
        refine a12 (101 - (i + 1)) (by omega) ⟨_,_,?_,i + 1,ts ++ [g],rfl,q1,q2,hl2,hlf2,rfl,rfl⟩
        rw [hT2]
        (simp +decide only [go_sem,a02,a00,a0a,a0b,List.nil_append,List.length_nil,Pat.enc,h1',h2']<;>rfl)<;>rfl
       | cons a2 r2=>
        simp only [List.length_cons] at hll2
        have hrm2:r2.length + 1 + 1 ≤ 1000000000:=by omega
        simp only [List.flatMap_cons] at u1
        simp only [List.map_cons,List.cons.injEq] at u2
        (repeat first|simp only [ww]|(apply xa;simp +decide only [go_sem,d1,d2,q1,hpi,hpe,hgc,hwi,a0a,a0b,hrm2];rfl;kernel_rfl))
        refine a12 (101 - (i + 1)) (by omega) ⟨_,_,?_,i + 1,ts ++ [g],rfl,q1,q2,hl2,hlf2,rfl,rfl⟩
        rw [hT2]
        (simp +decide only [go_sem,a02,a00,a0a,a0b,List.cons_append,u1,u2,Pat.enc,h1',h2']<;>rfl)<;>rfl
      ·have hd:(¬ (i:Int) < x.ps.length) ∨ ((i:Int) < x.ps.length ∧ ¬ (i:Int) < 100):=by omega
       generalize hU:ts.map Pat.enc = U at hll2 hfU u1 u2
       cases U with
       | nil=>
        rcases hd with d1|⟨d1,d2⟩
        ·(repeat first|simp only [ww]|(apply xa;simp +decide only [go_sem,d1,a0q,a0r];rfl;kernel_rfl))
         refine a5v (vs:=_) (r:=(_,[])) (by simp +decide only [go_sem]<;>rfl) (by simp +decide only [go_sem,a0s _ _ hfT,htkT]<;>rfl) ⟨none,none,l,ts,by omega,by omega,hlf,htf,by rw [hU,hT];rfl⟩
        ·(repeat first|simp only [ww]|(apply xa;simp +decide only [go_sem,d1,d2,a0q,a0r];rfl;kernel_rfl))
         refine a5v (vs:=_) (r:=(_,[])) (by simp +decide only [go_sem]<;>rfl) (by simp +decide only [go_sem,a0s _ _ hfT,htkT]<;>rfl) ⟨none,none,l,ts,by omega,by omega,hlf,htf,by rw [hU,hT];rfl⟩
       | cons a2 r2=>
        have htkU:List.take (r2.length + 1) (a2 :: r2) = a2 :: r2:=List.take_length (l:=a2 :: r2)
        rcases hd with d1|⟨d1,d2⟩
        ·(repeat first|simp only [ww]|(apply xa;simp +decide only [go_sem,d1,a0a,a0b];rfl;kernel_rfl))
         refine a5v (vs:=_) (r:=(_,[])) (by simp +decide only [go_sem]<;>rfl) (by simp +decide only [go_sem,a0s _ _ hfU,htkU,a0s _ _ hfT,htkT]<;>rfl) ⟨none,none,l,ts,by omega,by omega,hlf,htf,by rw [hU,hT];rfl⟩
        ·(repeat first|simp only [ww]|(apply xa;simp +decide only [go_sem,d1,d2,a0a,a0b];rfl;kernel_rfl))
         refine a5v (vs:=_) (r:=(_,[])) (by simp +decide only [go_sem]<;>rfl) (by simp +decide only [go_sem,a0s _ _ hfU,htkU,a0s _ _ hfT,htkT]<;>rfl) ⟨none,none,l,ts,by omega,by omega,hlf,htf,by rw [hU,hT];rfl⟩
theorem c60 (x:CaseX):refs (.agg x.enc) = []:=by
 simp only [CaseX.enc,CX.enc,List.cons_append,List.nil_append,go_sem]
theorem c8e (x:CaseX) (hx:x.ok):∃ (lr tr:Rep) (l:List Flt) (ts:List Pat),l.length ≤ 80 ∧ ts.length ≤ 100 ∧ (∀ f ∈ l,FltOk (a8s x.c).cir.nodes f) ∧ (∀ p ∈ ts,PatOk (a8s x.c).cir.nodes p) ∧
 ∀ (d:Bool) (H:a06),a0e L.env d (sem L.env Mf) (.func (.func 8) [] []) [.agg x.enc] H = some (.tuple [.agg (a8s x.c).cir.enc,sl lr (l.map Flt.enc),sl tr (ts.map Pat.enc)],H,[]):=by
 obtain ⟨r,⟨lr,tr,l,ts,h1,h2,h3,h4,rfl⟩,h⟩:=d82 x hx (CX.wf _)
 refine ⟨lr,tr,l,ts,h1,h2,h3,h4,fun d H=>a05 (by kernel_rfl) (by kernel_rfl) rfl ?_ h ?_⟩
 ·simp only [List.nil_append,List.append_nil,a0c,a3d,c60]
 ·simp only [go_sem,Cir.enc]
theorem a8d {d:Bool} (H:a06) (c:Cir) (h:c.wf) (rl rt:Rep) (l:List Flt) (tests:List Pat) (hll:l.length ≤ 1000) (htl:tests.length ≤ 4096) (hf:∀ f ∈ l,FltOk c.nodes f) (hp:∀ p ∈ tests,PatOk c.nodes p) (ord:List Nat) (hop:ord.Perm (List.range c.nodes.length))
 (hst:∀ (d:Bool) (H:a06),a0e L.env d (sem L.env Mf) (.func (.func 51) [] []) [.agg c.enc] H = some (.agg (a4u c ord net0V pin0V),H,[])) :
 a0e L.env d (sem L.env Mf) (.func (.func 31) [] []) [.agg c.enc,sl rl (l.map Flt.enc),sl rt (tests.map Pat.enc)] H = some (.tuple [.islice ((a5g c ord l tests).map c5m) (some l.length),.int .i64 0],H,[]):=by
 have h1:=e0f c h rl rt l tests hll htl hf hp ord hop hst
 rw [b9j] at h1
 exact a05 (by kernel_rfl) (by kernel_rfl) rfl (by simp only [List.nil_append,List.append_nil,a0c,a10,Cir.enc,go_sem]) h1 rfl
end Go.MInst
