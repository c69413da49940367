/- Patterns as rows. -/
import Derived.Test.YtgmenpackpnmaaaGreatDoorMPc
import Derived.Test.YtgmenpackpnmaaaGreatDoorPcC
set_option linter.unusedSimpArgs false
set_option linter.unusedVariables false
namespace Go.MInst
open Go.Proofs Go.Ax Go.Pc
theorem b7e (l:List Pat):FlatR (l.map Pat.enc):=FlatR.map fun p=>by simp only [Pat.enc,a09,a1u,a2f,List.append_nil]
open Go.Proofs Go.Ax Go.Pc
set_option maxRecDepth 100000
theorem b8q {ps:List Pat} (hpl:ps.length ≤ 64) {j:Nat} {p:Pat} (hj:ps[j]? = some p) (sel:Pat → List Nat) (n:Nat) (hn:(sel p).length = n):(a5a (ps.map sel) n).map (a38 j) = (sel p).map a0l:=by
 have hjl:=(List.getElem?_eq_some_iff.1 hj).1
 unfold a5a
 rw [List.map_map]
 apply List.ext_getElem?
 intro i
 rw [List.getElem?_map,List.getElem?_map]
 by_cases hi:i < n
 ·rw [List.getElem?_range hi]
  obtain ⟨v,hv⟩:∃ v,(sel p)[i]? = some v:=⟨_,List.getElem?_eq_getElem (by omega)⟩
  rw [hv]
  simp only [Option.map_some,Function.comp]
  congr 1
  unfold c4g
  rw [b04 (by omega) _ _ _ (by simp;omega),if_pos (by simp;omega)]
  congr 1
  rw [List.map_map,Nat.sub_zero,List.getD_eq_getElem?_getD,List.getElem?_map,hj]
  simp [hv]
 ·rw [List.getElem?_eq_none (by simpa using hi),List.getElem?_eq_none (by omega)];rfl
theorem c2t {n j:Nat} (hn:n < 64) (hj:j < 64):(BitVec.ofInt 64 1 <<< n - BitVec.ofInt 64 1).getLsbD j = decide (j < n):=by
 have e:∀ n:Fin 64,∀ j:Fin 64,(BitVec.ofInt 64 1 <<< n.val - BitVec.ofInt 64 1).getLsbD j.val = decide (j.val < n.val):=by decide +kernel
 exact e ⟨n,hn⟩ ⟨j,hj⟩
theorem d90 (c:Cir) (ord:List Nat) (f:Flt) (ps:List Pat) (hp:∀ p ∈ ps,PatOk c.nodes p) (hpl:ps.length ≤ 64) (j:Nat) (p:Pat) (hj:ps[j]? = some p):(b4p c ord f ps).getLsbD j = (a2b c ord).det f p:=by
 have hjl:=(List.getElem?_eq_some_iff.1 hj).1
 have hpm:=hp p (List.mem_of_getElem? hj)
 have hr:(b5o c ord f (d1a c ps) (d19 c ps)).getLsbD j = (a2b c ord).det f p:=
  d40 (a2b c ord) (by omega) f p (d1a c ps) (d19 c ps) (b8q hpl hj Pat.ins _ hpm.ins) (b8q hpl hj Pat.sts _ hpm.sts) _ (c1l f _)
 unfold b4p
 split
 ·rename_i h64
  rw [BitVec.getLsbD_and,hr,c2t h64 (by omega),decide_eq_true hjl,Bool.and_true]
 ·exact hr
theorem d8y (c:Cir) (ord:List Nat) (f:Flt) (ps:List Pat) (j:Nat) (hj:ps.length ≤ j) (hj2:j < 64):(b4p c ord f ps).getLsbD j = false:=by
 unfold b4p
 split
 ·rename_i h64
  rw [BitVec.getLsbD_and,c2t h64 hj2,decide_eq_false (by omega),Bool.and_false]
 ·omega
theorem b9u {tests:List Pat} {t q:Nat} (h:q < 64):(a3s tests t)[q]? = tests[64 * t + q]?:=by
 unfold a3s;rw [List.getElem?_take,if_pos h,List.getElem?_drop]
theorem d7m (c:Cir) (ord:List Nat) (f:Flt) (tests:List Pat) (hp:∀ p ∈ tests,PatOk c.nodes p) (j:Nat):(b4p c ord f (a3s tests (j / 64))).getLsbD (j % 64) = match tests[j]? with
 | some p=>(a2b c ord).det f p
 | none=>false:=by
 have hg:(a3s tests (j / 64))[j % 64]? = tests[j]?:=by rw [b9u (Nat.mod_lt _ (by omega))];congr 1;omega
 cases hj:tests[j]? with
 | some p=>
  rw [hj] at hg
  exact d90 c ord f _ (fun p hp'=>hp p (a8j hp')) (a7a _ _) _ p hg
 | none=>
  rw [hj] at hg
  exact d8y c ord f _ _ (List.getElem?_eq_none_iff.1 hg) (Nat.mod_lt _ (by omega))
theorem d6v {c:Cir} {ord:List Nat} {l:List Flt} {tests:List Pat} {i:Nat} {f:Flt} (h:l[i]? = some f):(b4k c ord l tests)[i]? = some ((List.range ((tests.length + 63) / 64)).map fun t=>b4p c ord f (a3s tests t)):=by
 unfold b4k;rw [List.getElem?_map,h];rfl
open Go.Proofs Go.Ax Go.Pc
set_option maxRecDepth 100000
def c6x (r:Rep × List (BitVec 64)):List AV:=[sl r.1 (r.2.map b4i)]
attribute [go_sem] c6x b4i List.length_map List.getElem?_map
def atB (rows:List (Rep × List (BitVec 64))) (i k:Int):Bool:=
 if 0 ≤ i ∧ 0 ≤ k then match rows[i.toNat]? with
  | some r=>match r.2[k.toNat / 64]? with
   | some w=>w.getLsbD (k.toNat % 64)
   | none=>false
  | none=>false
 else false
theorem e90 (c:Rep) (rows:List (Rep × List (BitVec 64))) (i k:Int) (hk:k < 9223372036854775808) :
 sem L.env Mf 36 [sl c (rows.map c6x),.int .i64 i,.int .i64 k] [] = some (.bool (atB rows i k),[]):=by
 by_cases hi:i < 0
 ·have e:atB rows i k = false:=by simp [atB];omega
  rw [e]
  (refine sv Tryz.f36 ?_;simp only [Tryz.f36,gS])
  (repeat first|simp only [ww]|(apply xa;simp +decide only [go_sem,hi];rfl;kernel_rfl))
  (apply fqb;simp +decide only [go_sem]<;>rfl)
 obtain ⟨a,rfl⟩:∃ a:Nat,i = a:=⟨i.toNat,by omega⟩
 by_cases ha:rows.length ≤ a
 ·have e:atB rows a k = false:=by
   simp only [atB,Int.toNat_natCast];rw [List.getElem?_eq_none ha];simp
  rw [e]
  have h2:(rows.length:Int) ≤ a:=by omega
  (refine sv Tryz.f36 ?_;simp only [Tryz.f36,gS])
  (repeat first|simp only [ww]|(apply xa;simp +decide only [go_sem,hi,h2];rfl;kernel_rfl))
  (apply fqb;simp +decide only [go_sem]<;>rfl)
 obtain ⟨r,hr⟩:∃ r,rows[a]? = some r:=⟨_,List.getElem?_eq_getElem (by omega)⟩
 have h2:¬ (rows.length:Int) ≤ a:=by omega
 by_cases hk0:k < 0
 ·have e:atB rows a k = false:=by simp [atB];omega
  rw [e]
  (refine sv Tryz.f36 ?_;simp only [Tryz.f36,gS])
  (repeat first|simp only [ww]|(apply xa;simp +decide only [go_sem,hi,h2,hk0];rfl;kernel_rfl))
  (apply fqb;simp +decide only [go_sem]<;>rfl)
 obtain ⟨n,rfl⟩:∃ n:Nat,k = n:=⟨k.toNat,by omega⟩
 have hq:IntKind.i64.wrap ((n / 64:Nat):Int) = ((n / 64:Nat):Int):=w64 (by omega) (by omega)
 by_cases hw:r.2.length ≤ n / 64
 ·have e:atB rows a n = false:=by
   simp only [atB,Int.toNat_natCast,hr];rw [List.getElem?_eq_none hw];simp
  rw [e]
  have h3:(r.2.length:Int) ≤ ((n / 64:Nat):Int):=by omega
  (refine sv Tryz.f36 ?_;simp only [Tryz.f36,gS])
  (repeat first|simp only [ww]|(apply xa;simp +decide only [go_sem,hi,h2,hk0,hr,hq,h3];rfl;kernel_rfl))
  (apply fqb;simp +decide only [go_sem]<;>rfl)
 ·obtain ⟨w,hw'⟩:∃ w,r.2[n / 64]? = some w:=⟨_,List.getElem?_eq_getElem (by omega)⟩
  have e:atB rows a n = w.getLsbD (n % 64):=by
   simp only [atB,Int.toNat_natCast,hr,hw'];simp
  rw [e]
  have h3:¬ (r.2.length:Int) ≤ ((n / 64:Nat):Int):=by omega
  have hm:(n:Int).tmod 64 = ((n % 64:Nat):Int):=rfl
  have hm0:¬ ((n % 64:Nat):Int) < 0:=by omega
  (refine sv Tryz.f36 ?_;simp only [Tryz.f36,gS])
  (repeat first|simp only [ww]|(apply xa;simp +decide only [go_sem,hi,h2,hk0,hr,hq,h3,hw',hm,hm0,d4l];rfl;kernel_rfl))
  (apply fqb;simp +decide only [go_sem]<;>rfl)
theorem d9w {d:Bool} (H:a05) (c:Rep) (rows:List (Rep × List (BitVec 64))) (i k:Int) (hk:k < 9223372036854775808) :
 a0c L.env d (sem L.env Mf) (.func (.func 36) [] []) [sl c (rows.map c6x),.int .i64 i,.int .i64 k] H = some (.bool (atB rows i k),H,[]):=
 a03 (by kernel_rfl) (by kernel_rfl) rfl (by simp only [go_sem]) (e90 c rows i k hk) rfl
theorem c4o {d:Bool} (H:a05):a0c L.env d (sem L.env Mf) (.func (.func 13) [] []) [] H = some (.bool true,H,[]):=
 a03 (by kernel_rfl) (by kernel_rfl) rfl rfl c8a rfl
def a5t (c:Cir) (ord:List Nat) (l:List Flt) (tests:List Pat):List (Rep × List (BitVec 64)):=(b4k c ord l tests).map fun r=>(some (some ((tests.length + 63) / 64)),r)
theorem c0l (c:Cir) (ord:List Nat) (l:List Flt) (tests:List Pat):(b4k c ord l tests).map (fun r=>[AV.islice (r.map b4i) (some ((tests.length + 63) / 64))]) = (a5t c ord l tests).map c6x:=by
 unfold a5t
 rw [List.map_map]
 exact List.map_congr_left fun r _=>by simp only [Function.comp,c6x,a6j]
theorem d9x (c:Cir) (ord:List Nat) (l:List Flt) (tests:List Pat) (hp:∀ p ∈ tests,PatOk c.nodes p) (i j:Nat) (f:Flt) (hf:l[i]? = some f):atB (a5t c ord l tests) i j = match tests[j]? with
 | some p=>(a2b c ord).det f p
 | none=>false:=by
 unfold atB
 rw [if_pos ⟨by omega,by omega⟩]
 simp only [Int.toNat_natCast]
 have hr:(a5t c ord l tests)[i]? = some (some (some ((tests.length + 63) / 64)),(List.range ((tests.length + 63) / 64)).map fun t=>b4p c ord f (a3s tests t)):=by
  unfold a5t;rw [List.getElem?_map,d6v hf];rfl
 rw [hr]
 simp only
 by_cases hw:j / 64 < (tests.length + 63) / 64
 ·rw [List.getElem?_map,List.getElem?_range hw]
  simp only [Option.map_some]
  exact d7m c ord f tests hp j
 ·rw [List.getElem?_eq_none (by simp;omega),List.getElem?_eq_none (by omega)]
end Go.MInst
/- Nothing here. -/
