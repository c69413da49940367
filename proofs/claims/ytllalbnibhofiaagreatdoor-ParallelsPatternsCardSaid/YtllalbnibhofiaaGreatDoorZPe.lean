/- Part of a proof. No condition. -/
import Derived.Test.YtllalbnibhofiaaGreatDoorZPd
import Derived.Test.YtllalbnibhofiaaGreatDoorPcC
set_option linter.unusedSimpArgs false
set_option linter.unusedVariables false
namespace Go.ZInst
open Go.Proofs Go.Ax Go.Pc
set_option maxRecDepth 100000
theorem as4 (l:List Pat):FlatR (l.map Pat.enc):=FlatR.map fun p=>by simp only [Pat.enc,aa7,abf,ac2,List.append_nil]
open Go.Proofs Go.Ax Go.Pc
set_option maxRecDepth 100000
theorem at7 {ps:List Pat} (hpl:ps.length ≤ 64) {j:Nat} {p:Pat} (hj:ps[j]? = some p) (sel:Pat → List Nat) (n:Nat) (hn:(sel p).length = n):(ae9 (ps.map sel) n).map (adb j) = (sel p).map aal:=by
 have hjl:=(List.getElem?_eq_some_iff.1 hj).1
 unfold ae9
 rw [List.map_map]
 apply List.ext_getElem?
 intro i
 rw [List.getElem?_map,List.getElem?_map]
 by_cases hi:i < n
 ·rw [List.getElem?_range hi]
  obtain ⟨v,hv⟩:∃ v,(sel p)[i]? = some v:=⟨_,List.getElem?_eq_getElem (by omega)⟩
  rw [hv]
  simp only [Option.map_some,Function.comp]
  congr 1
  unfold ayp
  rw [akh (by omega) _ _ _ (by simp;omega),if_pos (by simp;omega)]
  congr 1
  rw [List.map_map,Nat.sub_zero,List.getD_eq_getElem?_getD,List.getElem?_map,hj]
  simp [hv]
 ·rw [List.getElem?_eq_none (by simpa using hi),List.getElem?_eq_none (by omega)];rfl
theorem awv {n j:Nat} (hn:n < 64) (hj:j < 64):(BitVec.ofInt 64 1 <<< n - BitVec.ofInt 64 1).getLsbD j = decide (j < n):=by
 have e:∀ n:Fin 64,∀ j:Fin 64,(BitVec.ofInt 64 1 <<< n.val - BitVec.ofInt 64 1).getLsbD j.val = decide (j.val < n.val):=by decide +kernel
 exact e ⟨n,hn⟩ ⟨j,hj⟩
theorem blz (c:Cir) (ord:List Nat) (f:Flt) (ps:List Pat) (hp:∀ p ∈ ps,PatOk c.nodes p) (hpl:ps.length ≤ 64) (j:Nat) (p:Pat) (hj:ps[j]? = some p):(ajf c ord f ps).getLsbD j = (ab5 c ord).det f p:=by
 have hjl:=(List.getElem?_eq_some_iff.1 hj).1
 have hpm:=hp p (List.mem_of_getElem? hj)
 have hr:(akn c ord f (awa c ps) (aw9 c ps)).getLsbD j = (ab5 c ord).det f p:=
  bh8 (ab5 c ord) (by omega) f p (awa c ps) (aw9 c ps) (at7 hpl hj Pat.ins _ hpm.ins) (at7 hpl hj Pat.sts _ hpm.sts) _ (avq f _)
 unfold ajf
 split
 ·rename_i h64
  rw [BitVec.getLsbD_and,hr,awv h64 (by omega),decide_eq_true hjl,Bool.and_true]
 ·exact hr
theorem bly (c:Cir) (ord:List Nat) (f:Flt) (ps:List Pat) (j:Nat) (hj:ps.length ≤ j) (hj2:j < 64):(ajf c ord f ps).getLsbD j = false:=by
 unfold ajf
 split
 ·rename_i h64
  rw [BitVec.getLsbD_and,awv h64 hj2,decide_eq_false (by omega),Bool.and_false]
 ·omega
theorem bdk {tests:List Pat} {t q:Nat} (h:q < 64):(ai9 tests t)[q]? = tests[64 * t + q]?:=by
 unfold ai9;rw [List.getElem?_take,if_pos h,List.getElem?_drop]
/-- A bit of a table's row. -/
theorem bkn (c:Cir) (ord:List Nat) (f:Flt) (tests:List Pat) (hp:∀ p ∈ tests,PatOk c.nodes p) (j:Nat):(ajf c ord f (ai9 tests (j / 64))).getLsbD (j % 64) = match tests[j]? with
 | some p=>(ab5 c ord).det f p
 | none=>false:=by
 have hg:(ai9 tests (j / 64))[j % 64]? = tests[j]?:=by rw [bdk (Nat.mod_lt _ (by omega))];congr 1;omega
 cases hj:tests[j]? with
 | some p=>
  rw [hj] at hg
  exact blz c ord f _ (fun p hp'=>hp p (aoy hp')) (aoz _ _) _ p hg
 | none=>
  rw [hj] at hg
  exact bly c ord f _ _ (List.getElem?_eq_none_iff.1 hg) (Nat.mod_lt _ (by omega))
/-- The rows of a table, by faults and patterns. -/
theorem bk2 {c:Cir} {ord:List Nat} {l:List Flt} {tests:List Pat} {i:Nat} {f:Flt} (h:l[i]? = some f):(aja c ord l tests)[i]? = some ((List.range ((tests.length + 63) / 64)).map fun t=>ajf c ord f (ai9 tests t)):=by
 unfold aja;rw [List.getElem?_map,h];rfl
open Go.Proofs Go.Ax Go.Pc
set_option maxRecDepth 100000
def bo3 (r:Rep × List (BitVec 64)):List AV:=[sl r.1 (r.2.map amc)]
attribute [go_sem] bo3 amc List.length_map List.getElem?_map
def atB (rows:List (Rep × List (BitVec 64))) (i k:Int):Bool:=
 if 0 ≤ i ∧ 0 ≤ k then match rows[i.toNat]? with
  | some r=>match r.2[k.toNat / 64]? with
   | some w=>w.getLsbD (k.toNat % 64)
   | none=>false
  | none=>false
 else false
theorem bv8 (c:Rep) (rows:List (Rep × List (BitVec 64))) (i k:Int) (hk:k < 9223372036854775808) :
 sem L.env Mf 10 [sl c (rows.map bo3),.int .i64 i,.int .i64 k] [] = some (.bool (atB rows i k),[]):=by
 by_cases hi:i < 0
 ·have e:atB rows i k = false:=by simp [atB];omega
  rw [e]
  (refine sv Tryz.f10 ?_;simp only [Tryz.f10,gS])
  (repeat first|simp only [ww]|(apply xa;simp +decide only [go_sem,hi];rfl;kernel_rfl))
  (apply fqb;simp +decide only [go_sem]<;>rfl)
 obtain ⟨a,rfl⟩:∃ a:Nat,i = a:=⟨i.toNat,by omega⟩
 by_cases ha:rows.length ≤ a
 ·have e:atB rows a k = false:=by
   simp only [atB,Int.toNat_natCast];rw [List.getElem?_eq_none ha];simp
  rw [e]
  have h2:(rows.length:Int) ≤ a:=by omega
  (refine sv Tryz.f10 ?_;simp only [Tryz.f10,gS])
  (repeat first|simp only [ww]|(apply xa;simp +decide only [go_sem,hi,h2];rfl;kernel_rfl))
  (apply fqb;simp +decide only [go_sem]<;>rfl)
 obtain ⟨r,hr⟩:∃ r,rows[a]? = some r:=⟨_,List.getElem?_eq_getElem (by omega)⟩
 have h2:¬ (rows.length:Int) ≤ a:=by omega
 by_cases hk0:k < 0
 ·have e:atB rows a k = false:=by simp [atB];omega
  rw [e]
  (refine sv Tryz.f10 ?_;simp only [Tryz.f10,gS])
  (repeat first|simp only [ww]|(apply xa;simp +decide only [go_sem,hi,h2,hk0];rfl;kernel_rfl))
  (apply fqb;simp +decide only [go_sem]<;>rfl)
 obtain ⟨n,rfl⟩:∃ n:Nat,k = n:=⟨k.toNat,by omega⟩
 have hq:IntKind.i64.wrap ((n / 64:Nat):Int) = ((n / 64:Nat):Int):=w64 (by omega) (by omega)
 by_cases hw:r.2.length ≤ n / 64
 ·have e:atB rows a n = false:=by
   simp only [atB,Int.toNat_natCast,hr];rw [List.getElem?_eq_none hw];simp
  rw [e]
  have h3:(r.2.length:Int) ≤ ((n / 64:Nat):Int):=by omega
  (refine sv Tryz.f10 ?_;simp only [Tryz.f10,gS])
  (repeat first|simp only [ww]|(apply xa;simp +decide only [go_sem,hi,h2,hk0,hr,hq,h3];rfl;kernel_rfl))
  (apply fqb;simp +decide only [go_sem]<;>rfl)
 ·obtain ⟨w,hw'⟩:∃ w,r.2[n / 64]? = some w:=⟨_,List.getElem?_eq_getElem (by omega)⟩
  have e:atB rows a n = w.getLsbD (n % 64):=by
   simp only [atB,Int.toNat_natCast,hr,hw'];simp
  rw [e]
  have h3:¬ (r.2.length:Int) ≤ ((n / 64:Nat):Int):=by omega
  have hm:(n:Int).tmod 64 = ((n % 64:Nat):Int):=rfl
  have hm0:¬ ((n % 64:Nat):Int) < 0:=by omega
  (refine sv Tryz.f10 ?_;simp only [Tryz.f10,gS])
  (repeat first|simp only [ww]|(apply xa;simp +decide only [go_sem,hi,h2,hk0,hr,hq,h3,hw',hm,hm0,bhq];rfl;kernel_rfl))
  (apply fqb;simp +decide only [go_sem]<;>rfl)
theorem bmv {d:Bool} (H:aa4) (c:Rep) (rows:List (Rep × List (BitVec 64))) (i k:Int) (hk:k < 9223372036854775808) :
 aaa L.env d (sem L.env Mf) (.func (.func 10) [] []) [sl c (rows.map bo3),.int .i64 i,.int .i64 k] H = some (.bool (atB rows i k),H,[]):=
 aa3 (by kernel_rfl) (by kernel_rfl) rfl (by simp only [go_sem]) (bv8 c rows i k hk) rfl
theorem ayx {d:Bool} (H:aa4):aaa L.env d (sem L.env Mf) (.func (.func 12) [] []) [] H = some (.bool true,H,[]):=
 aa3 (by kernel_rfl) (by kernel_rfl) rfl rfl bc2 rfl
/-- A table that Table gives, as At sees it. -/
def aid (c:Cir) (ord:List Nat) (l:List Flt) (tests:List Pat):List (Rep × List (BitVec 64)):=(aja c ord l tests).map fun r=>(some (some ((tests.length + 63) / 64)),r)
theorem auv (c:Cir) (ord:List Nat) (l:List Flt) (tests:List Pat):(aja c ord l tests).map (fun r=>[AV.islice (r.map amc) (some ((tests.length + 63) / 64))]) = (aid c ord l tests).map bo3:=by
 unfold aid
 rw [List.map_map]
 exact List.map_congr_left fun r _=>by simp only [Function.comp,bo3,ahm]
theorem bmw (c:Cir) (ord:List Nat) (l:List Flt) (tests:List Pat) (hp:∀ p ∈ tests,PatOk c.nodes p) (i j:Nat) (f:Flt) (hf:l[i]? = some f):atB (aid c ord l tests) i j = match tests[j]? with
 | some p=>(ab5 c ord).det f p
 | none=>false:=by
 unfold atB
 rw [if_pos ⟨by omega,by omega⟩]
 simp only [Int.toNat_natCast]
 have hr:(aid c ord l tests)[i]? = some (some (some ((tests.length + 63) / 64)),(List.range ((tests.length + 63) / 64)).map fun t=>ajf c ord f (ai9 tests t)):=by
  unfold aid;rw [List.getElem?_map,bk2 hf];rfl
 rw [hr]
 simp only
 by_cases hw:j / 64 < (tests.length + 63) / 64
 ·rw [List.getElem?_map,List.getElem?_range hw]
  simp only [Option.map_some]
  exact bkn c ord f tests hp j
 ·rw [List.getElem?_eq_none (by simp;omega),List.getElem?_eq_none (by omega)]
set_option maxHeartbeats 200000000
open Go.Proofs Go.Ax Go.Pc
set_option maxRecDepth 100000
def pD:Pat:=⟨none,[],none,[]⟩
def ajb (S:Sim) (f:Flt) (ps:List Pat) (i:Nat):List (List AV):=(List.range ps.length).map fun j=>[.bool (if j < i then S.det f (ps.getD j pD) else false)]
theorem akb (S:Sim) (f:Flt) (ps:List Pat) (i:Nat):(ajb S f ps i).length = ps.length:=by simp [ajb]
theorem ayn (S:Sim) (f:Flt) (ps:List Pat):ajb S f ps 0 = List.replicate ps.length [.bool false]:=by
 unfold ajb
 refine (List.map_congr_left (g:=fun _=>[AV.bool false]) (fun j _=>by rw [if_neg (Nat.not_lt_zero _)])).trans ?_
 rw [List.map_const',List.length_range]
theorem anl {S:Sim} {f:Flt} {ps:List Pat} {i j:Nat} (h:j < ps.length):(ajb S f ps i)[j]? = some [.bool (if j < i then S.det f (ps.getD j pD) else false)]:=by
 unfold ajb;rw [List.getElem?_map,List.getElem?_range h];rfl
theorem ayo {S:Sim} {f:Flt} {ps:List Pat} {i:Nat} {p:Pat} (h:ps[i]? = some p):(ajb S f ps i).set i [.bool (S.det f p)] = ajb S f ps (i + 1):=by
 have hi:=(List.getElem?_eq_some_iff.1 h).1
 have hD:ps.getD i pD = p:=by rw [List.getD_eq_getElem?_getD,h];rfl
 apply List.ext_getElem?
 intro j
 rw [List.getElem?_set,akb]
 by_cases hj:j < ps.length
 ·rw [anl hj,anl hj]
  by_cases hij:i = j
  ·subst hij;rw [if_pos rfl,if_pos hi,if_pos (by omega),hD]
  ·rw [if_neg hij]
   by_cases h2:j < i
   ·rw [if_pos h2,if_pos (by omega)]
   ·rw [if_neg h2,if_neg (by omega)]
 ·have e:∀ i,(ajb S f ps i)[j]? = none:=fun i=>List.getElem?_eq_none (by rw [akb];omega)
  rw [e,e,if_neg (by omega)]
theorem bbe {S:Sim} {f:Flt} {ps:List Pat}:ajb S f ps ps.length = ps.map fun p=>[.bool (S.det f p)]:=by
 unfold ajb
 apply List.ext_getElem?
 intro j
 rw [List.getElem?_map,List.getElem?_map]
 cases hj:ps[j]? with
 | none=>rw [List.getElem?_eq_none (by have:=List.getElem?_eq_none_iff.1 hj;simpa using this)];rfl
 | some f=>
  have hjl:=(List.getElem?_eq_some_iff.1 hj).1
  have hD:ps.getD j pD = f:=by rw [List.getD_eq_getElem?_getD,hj];rfl
  rw [List.getElem?_range hjl]
  simp only [Option.map_some]
  rw [if_pos hjl,hD]
theorem akq (S:Sim) (f:Flt) (ps:List Pat) (i:Nat):FlatR (ajb S f ps i):=FlatR.map fun _=>rfl
theorem bhl (n:Nat) (rows:List (List AV)) (hf:FlatR rows):sem L.env Mf 21 [.slice 0 0 n (some n)] [some (.row 1 rows)] = some (.slice 0 0 n (some n),[some (.row 1 rows)]):=by
 have h1:=fun π=>aae π hf
 (refine sv Tryz.f21 ?_;simp only [Tryz.f21,gS])
 (repeat first|simp only [ww]|(apply xa;simp +decide only [go_sem];rfl;kernel_rfl))
 (apply fqb;simp +decide only [go_sem,h1]<;>rfl)
theorem azo {d:Bool} {H:aa4} {b n:Nat} {rows:List (List AV)} (hf:FlatR rows) (hb:aa2 H b = some (.row 1 rows)):aaa L.env d (sem L.env Mf) (.func (.func 21) [] []) [.slice b 0 n (some n)] H = some (.slice b 0 n (some n),H,[b]):=by
 have h:=afu (E:=L.env) (draw:=d) (call:=sem L.env Mf) (g:=21) (fs:=[]) (cs:=[]) (ar:=[.slice b 0 n (some n)]) (H:=H) (b:=b) (by kernel_rfl) (by kernel_rfl) rfl hb (aad hf) (FlatO.row hf) rfl (args':=[AV.slice 0 0 n (some n)]) (by simp only [List.nil_append,List.append_nil,List.map_cons,List.map_nil,ac0]) (bhl n rows hf) (FlatO.row hf) (ai3 b 0 _ n _)
 rw [aml hb] at h
 exact h
theorem bfl (c:Cir) (h:c.wf) (rt:Rep) (f:Flt) (tests:List Pat) (htl:tests.length ≤ 4096) (hf:FltOk c.nodes f) (hp:∀ p ∈ tests,PatOk c.nodes p) (ord:List Nat) (hop:ord.Perm (List.range c.nodes.length))
 (hst:∀ (d:Bool) (H:aa4),aaa L.env d (sem L.env Mf) (.func (.func 18) [] []) [.agg c.enc] H = some (.agg (adp c ord net0V pin0V),H,[])) :
 sem L.env Mf 9 [.agg c.enc,.agg f.enc,sl rt (tests.map Pat.enc)] [] = some (.tuple [.islice (tests.map fun p=>[.bool ((ab5 c ord).det f p)]) (some tests.length),.int .i64 0],[]):=by
 have hnl:=h.len
 have htb:=fun (X Y:Option AObj)=>aca (E:=L.env) (draw:=false) (call:=sem L.env Mf) (g:=8) (fs:=[]) (cs:=[]) (ar:=[.agg c.enc,.slice 2 0 1 (some 1),sl rt (tests.map Pat.enc)]) (H:=[X,Y,some (.row 5 ([f].map Flt.enc))]) (b:=2) (by kernel_rfl) (by kernel_rfl) rfl rfl (aad (acp [f])) (FlatO.row (acp [f])) (by simp only [List.nil_append,List.append_nil,aa7,aaw,Cir.enc,go_sem]) (args':=[.agg c.enc,.slice 0 0 1 (some 1),sl rt (tests.map Pat.enc)]) (by simp only [List.nil_append,List.append_nil,List.map_cons,List.map_nil,ac0,av5,ak8]) (bp5 c h rt [f] tests (by simp) htl (by simpa using hf) hp ord hop hst) rfl
 have e1:(aja c ord [f] tests).map (fun r=>[AV.islice (r.map amc) (some ((tests.length + 63) / 64))]) = _:=auv c ord [f] tests
 rw [e1] at htb
 have hat:=fun (H:aa4) (j:Nat) (hj:j < 100000)=>bmv (d:=false) H (some (some 1)) (aid c ord [f] tests) 0 j (by omega)
 have hbt:∀ j:Nat,atB (aid c ord [f] tests) 0 j = _:=fun j=>bmw c ord [f] tests hp 0 j f rfl
 have hrm:tests.length ≤ 1000000000:=by omega
 generalize hT:(aid c ord [f] tests).map bo3 = T at htb hat
 simp only [ahm] at hat
 simp only [Cir.enc] at htb ⊢
 have hfe:[f].map Flt.enc = [[.int .u8 f.model,.int .i64 f.node,.int .i64 f.pin,.int .u8 f.value,.int .i64 f.other]]:=rfl
 rw [hfe] at htb
 have hfe2:f.enc = [.int .u8 f.model,.int .i64 f.node,.int .i64 f.pin,.int .u8 f.value,.int .i64 f.other]:=rfl
 rw [hfe2]
 have hl1:([f]:List Flt).length = 1:=rfl
 rw [hl1] at htb
 (refine sv Tryz.f9 ?_;simp only [Tryz.f9,gS])
 (repeat first|simp only [ww]|(apply xa;simp +decide only [go_sem,htb,hrm];rfl;kernel_rfl))
 refine ab3 (σ:=Nat) kp9_0 (fun i=>[(8,.islice T (some 1)),(10,.slice 0 0 tests.length (some tests.length)),(27,.int .i64 tests.length),(28,.int .i64 i)]) (fun i=>[some (.row 1 (ajb (ab5 c ord) f tests i))]) (fun i=>tests.length - i) (fun i=>i ≤ tests.length) 0 ?_ (Nat.zero_le _) ?_
 ·have e0:=ayn (ab5 c ord) f tests
  have h1:=aah (akq (ab5 c ord) f tests 0)
  have h2:=fun π=>aae π (akq (ab5 c ord) f tests 0)
  rw [← e0]
  generalize hD:ajb (ab5 c ord) f tests 0 = D at h1 h2
  try simp only [hD]
  (simp +decide only [go_sem,aa1,aa0,h1,h2]<;>rfl)<;>rfl
 ·intro i hi
  by_cases hlt:i < tests.length
  ·obtain ⟨p,hpi⟩:∃ p,tests[i]? = some p:=⟨_,List.getElem?_eq_getElem hlt⟩
   have c1:(i:Int) < tests.length:=by omega
   have hwi:=wI1 (n:=i) (by omega)
   have ha:=fun H=>hat H i (by omega)
   have hb:=hbt i
   rw [hpi] at hb
   simp only at hb
   simp only [hb] at ha
   have hsc:=ayo (S:=(ab5 c ord)) (f:=f) hpi
   have hdl:=akb (ab5 c ord) f tests i
   have hgt:=anl (S:=(ab5 c ord)) (f:=f) (i:=i) hlt
   have h1:=aah (akq (ab5 c ord) f tests (i + 1))
   have h2:=fun π=>aae π (akq (ab5 c ord) f tests (i + 1))
   generalize (ab5 c ord).det f p = bt at ha hsc
   generalize hD2:ajb (ab5 c ord) f tests (i + 1) = D2 at h1 h2 hsc
   generalize ajb (ab5 c ord) f tests i = D at hdl hgt hsc
   (repeat first|simp only [ww]|(apply xa;simp +decide only [go_sem,c1,hlt,hwi,ha,hdl,hgt,hsc];rfl;kernel_rfl))
   refine ac6 (i + 1) ?_ (by omega) (by omega)
   simp only [hD2]
   (simp +decide only [go_sem,aa1,aa0,h1,h2]<;>rfl)<;>rfl
  ·obtain rfl:i = tests.length:=by omega
   have c1:¬ (tests.length:Int) < tests.length:=by omega
   have hfd:=akq (ab5 c ord) f tests tests.length
   have hdl:=akb (ab5 c ord) f tests tests.length
   rw [bbe] at hfd hdl ⊢
   generalize (tests.map fun p=>[AV.bool ((ab5 c ord).det f p)]) = D at hfd hdl
   have htk:D.take tests.length = D:=List.take_of_length_le (by omega)
   have hcb:=fun H hb=>azo (d:=false) (H:=H) (b:=0) (n:=tests.length) (rows:=D) hfd hb
   have hcb:=hcb [some (.row 1 D)] rfl
   (repeat first|simp only [ww]|(apply xa;simp +decide only [go_sem,c1,hcb];rfl;kernel_rfl))
   (apply fqb;simp +decide only [go_sem,aau _ _ hfd,hdl,htk]<;>rfl)
end Go.ZInst
