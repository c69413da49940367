/- PcPck: selections of tests: what remains uncovered. Plain. -/
import Derived.Test.YtbmkmaobejlkgaaDoorAxE
import Derived.Sort.AssemblyPlain
import Derived.Lib.SlicesMore
set_option linter.unusedSimpArgs false
set_option linter.unusedVariables false
namespace Go.Pc
def meetsL (a b:List Nat):Bool:=a.any fun x=>b.contains x
def unc (r acc:List Nat):Bool:=!r.isEmpty && !meetsL r acc
def covL (tb:List (List Nat)) (l:List Nat):Bool:=tb.all fun r=>!unc r l
def idxL (m:Nat) (p:Nat → Bool):List Int:=((List.range m).filter p).map fun (i:Nat)=>(i:Int)
theorem idxL_mem {m:Nat} {p:Nat → Bool} {z:Int}:z ∈ idxL m p ↔ ∃ i:Nat,z = i ∧ i < m ∧ p i = true:=by
 unfold idxL
 simp only [List.mem_map,List.mem_filter,List.mem_range]
 constructor
 ·rintro ⟨i,⟨h1,h2⟩,rfl⟩;exact ⟨i,rfl,h1,h2⟩
 ·rintro ⟨i,rfl,h1,h2⟩;exact ⟨i,⟨h1,h2⟩,rfl⟩
theorem idxL_memN {m:Nat} {p:Nat → Bool} {i:Nat}:(i:Int) ∈ idxL m p ↔ i < m ∧ p i = true:=by
 rw [idxL_mem]
 constructor
 ·rintro ⟨j,h,h1,h2⟩;have:i = j:=by omega
  subst this;exact ⟨h1,h2⟩
 ·rintro ⟨h1,h2⟩;exact ⟨i,rfl,h1,h2⟩
theorem idxL_congr {m:Nat} {p q:Nat → Bool} (h:∀ i,i < m → p i = q i):idxL m p = idxL m q:=by
 unfold idxL
 congr 1
 exact List.filter_congr fun i hi=>h i (List.mem_range.1 hi)
theorem idxL_filter {m:Nat} {p q:Nat → Bool} {f:Int → Bool} (h:∀ i:Nat,i < m → p i = true → f i = q i):(idxL m p).filter f = idxL m fun i=>p i && q i:=by
 unfold idxL
 rw [List.filter_map,List.filter_filter]
 congr 1
 refine List.filter_congr fun i hi=>?_
 have hm:=List.mem_range.1 hi
 simp only [Function.comp]
 cases hp:p i with
 | false=>simp
 | true=>simp [h i hm hp]
theorem idxL_nodup (m:Nat) (p:Nat → Bool):(idxL m p).Nodup:=by
 unfold idxL
 refine List.Pairwise.map _ (fun a b hab e=>hab (by omega)) (List.nodup_range.filter _)
theorem idxL_succ (m:Nat) (p:Nat → Bool):idxL (m + 1) p = idxL m p ++ if p m then [(m:Int)] else []:=by
 unfold idxL
 rw [List.range_succ,List.filter_append,List.map_append]
 congr 1
 cases h:p m<;>simp [h]
theorem idxL_len (m:Nat) (p:Nat → Bool):(idxL m p).length ≤ m:=by
 unfold idxL
 rw [List.length_map]
 exact Nat.le_trans (List.length_filter_le _ _) (by simp)
def rowAt' (tb:List (List Nat)) (i:Nat):List Nat:=tb.getD i []
def lset (tb:List (List Nat)) (acc:List Nat):List Int:=idxL tb.length fun i=>unc (rowAt' tb i) acc
def colI (tb:List (List Nat)) (t:Nat):List Int:=idxL tb.length fun i=>(rowAt' tb i).contains t
theorem meets_iff {a b:List Nat}:meetsL a b = true ↔ ∃ x ∈ a,x ∈ b:=by
 unfold meetsL;simp only [List.any_eq_true,List.contains_iff_mem]
theorem meets_snoc (r acc:List Nat) (t:Nat):meetsL r (acc ++ [t]) = (meetsL r acc || r.contains t):=by
 rw [Bool.eq_iff_iff,Bool.or_eq_true,meets_iff,meets_iff,List.contains_iff_mem]
 constructor
 ·rintro ⟨x,h1,h2⟩
  rcases List.mem_append.1 h2 with h2|h2
  ·exact .inl ⟨x,h1,h2⟩
  ·rw [List.mem_singleton] at h2;subst h2;exact .inr h1
 ·rintro (⟨x,h1,h2⟩|h)
  ·exact ⟨x,h1,List.mem_append_left _ h2⟩
  ·exact ⟨t,h,by simp⟩
theorem meets_cons (r acc:List Nat) (t:Nat):meetsL r (t :: acc) = (meetsL r acc || r.contains t):=by
 rw [Bool.eq_iff_iff,Bool.or_eq_true,meets_iff,meets_iff,List.contains_iff_mem]
 constructor
 ·rintro ⟨x,h1,h2⟩
  rcases List.mem_cons.1 h2 with rfl|h2
  ·exact .inr h1
  ·exact .inl ⟨x,h1,h2⟩
 ·rintro (⟨x,h1,h2⟩|h)
  ·exact ⟨x,h1,List.mem_cons_of_mem _ h2⟩
  ·exact ⟨t,h,by simp⟩
theorem unc_of {r acc acc':List Nat} {t:Nat} (h:meetsL r acc' = (meetsL r acc || r.contains t)):unc r acc' = (unc r acc && !r.contains t):=by
 unfold unc
 rw [h]
 cases r.isEmpty<;>cases meetsL r acc<;>cases r.contains t<;>rfl
theorem lset_drop {tb:List (List Nat)} {acc acc':List Nat} {t:Nat} (h:∀ r,meetsL r acc' = (meetsL r acc || r.contains t)):(lset tb acc).filter (fun y=>!(colI tb t).contains y) = lset tb acc':=by
 unfold lset
 rw [idxL_filter (q:=fun i=>!(rowAt' tb i).contains t) (fun i hi _=>by
  have:(colI tb t).contains (i:Int) = (rowAt' tb i).contains t:=by
   rw [Bool.eq_iff_iff,List.contains_iff_mem]
   unfold colI
   rw [idxL_memN]
   exact ⟨fun h=>h.2,fun h=>⟨hi,h⟩⟩
  rw [this])]
 exact idxL_congr fun i _=>(unc_of (h _)).symm
def gcnt (tb:List (List Nat)) (acc:List Nat) (t:Nat):Nat:=(colI tb t).countP fun y=>(lset tb acc).contains y
theorem gcnt_eq (tb:List (List Nat)) (acc:List Nat) (t:Nat):gcnt tb acc t = (List.range tb.length).countP fun i=>(rowAt' tb i).contains t && unc (rowAt' tb i) acc:=by
 unfold gcnt colI idxL
 rw [List.countP_map,List.countP_filter]
 refine List.countP_congr fun i hi=>?_
 have hm:=List.mem_range.1 hi
 simp only [Function.comp,Bool.and_eq_true,List.contains_iff_mem]
 unfold lset
 rw [idxL_memN]
 simp only [List.contains_iff_mem,hm,true_and]
 exact and_comm
theorem unc_contains {r acc:List Nat} {t:Nat} (h:r.contains t = true):unc r acc = !meetsL r acc:=by
 unfold unc
 cases r with
 | nil=>simp at h
 | cons=>rfl
theorem gcnt_pos (tb:List (List Nat)) (acc:List Nat) (t:Nat):0 < gcnt tb acc t ↔ (tb.any fun r=>r.contains t && !meetsL r acc) = true:=by
 rw [gcnt_eq,List.countP_pos_iff,List.any_eq_true]
 constructor
 ·rintro ⟨i,hi,h⟩
  have hm:=List.mem_range.1 hi
  simp only [Bool.and_eq_true] at h
  have hr:rowAt' tb i = tb[i]:=by unfold rowAt';rw [List.getD_eq_getElem?_getD,List.getElem?_eq_getElem hm];rfl
  rw [hr] at h
  refine ⟨tb[i],List.getElem_mem hm,?_⟩
  rw [← unc_contains h.1,h.1,h.2];rfl
 ·rintro ⟨r,hr,h⟩
  obtain ⟨i,hi,rfl⟩:=List.getElem_of_mem hr
  simp only [Bool.and_eq_true] at h
  refine ⟨i,List.mem_range.2 hi,?_⟩
  have hr:rowAt' tb i = tb[i]:=by unfold rowAt';rw [List.getD_eq_getElem?_getD,List.getElem?_eq_getElem hi];rfl
  rw [hr,unc_contains h.1,h.1,h.2];rfl
theorem lset_len0 (tb:List (List Nat)) (acc:List Nat):(lset tb acc).length = 0 ↔ covL tb acc = true:=by
 unfold covL
 rw [List.length_eq_zero_iff,List.all_eq_true,List.eq_nil_iff_forall_not_mem]
 constructor
 ·intro h r hr
  obtain ⟨i,hi,rfl⟩:=List.getElem_of_mem hr
  have h1:=h (i:Int)
  unfold lset at h1
  rw [idxL_memN] at h1
  have hr:rowAt' tb i = tb[i]:=by unfold rowAt';rw [List.getD_eq_getElem?_getD,List.getElem?_eq_getElem hi];rfl
  rw [hr] at h1
  cases hu:unc tb[i] acc with
  | false=>rfl
  | true=>exact absurd ⟨hi,hu⟩ h1
 ·intro h z hz
  unfold lset at hz
  obtain ⟨i,rfl,hi,hu⟩:=idxL_mem.1 hz
  have hr:rowAt' tb i = tb[i]:=by unfold rowAt';rw [List.getD_eq_getElem?_getD,List.getElem?_eq_getElem hi];rfl
  rw [hr] at hu
  have:=h _ (List.getElem_mem hi)
  rw [hu] at this;cases this
def later (tb:List (List Nat)):Nat → List Nat → List Nat
 | 0,acc=>acc
 | t + 1,acc=>later tb t (if 0 < gcnt tb acc t then t :: acc else acc)
theorem lset_same {tb:List (List Nat)} {acc:List Nat} {t:Nat} (h:gcnt tb acc t = 0):lset tb (t :: acc) = lset tb acc:=by
 unfold lset
 refine idxL_congr fun i hi=>?_
 rw [unc_of (meets_cons _ _ _)]
 rw [gcnt_eq,List.countP_eq_zero] at h
 have:=h i (List.mem_range.2 hi)
 simp only [Bool.and_eq_true,not_and,Bool.not_eq_true] at this
 cases hc:(rowAt' tb i).contains t with
 | false=>simp
 | true=>rw [this hc];rfl
def gbest (tb:List (List Nat)) (acc:List Nat):Nat → Nat × Nat
 | 0=>(0,0)
 | t + 1=>if (gbest tb acc t).2 < gcnt tb acc t then (t,gcnt tb acc t) else gbest tb acc t
theorem gbest_ge (tb:List (List Nat)) (acc:List Nat):∀ n t,t < n → gcnt tb acc t ≤ (gbest tb acc n).2
 | 0,t,h=>by omega
 | n + 1,t,h=>by
  simp only [gbest]
  rcases Nat.lt_succ_iff_lt_or_eq.1 h with h1|rfl
  ·have:=gbest_ge tb acc n t h1
   split<;>(try simp only)<;>omega
  ·split<;>(try simp only)<;>omega
theorem gbest_at (tb:List (List Nat)) (acc:List Nat):∀ n,(gbest tb acc n = (0,0)) ∨ ((gbest tb acc n).1 < n ∧ gcnt tb acc (gbest tb acc n).1 = (gbest tb acc n).2 ∧ 0 < (gbest tb acc n).2)
 | 0=>.inl rfl
 | n + 1=>by
  simp only [gbest]
  split
  ·rename_i h;exact .inr ⟨Nat.lt_succ_self n,rfl,by simp only;omega⟩
  ·rcases gbest_at tb acc n with h|⟨h1,h2,h3⟩
   ·exact .inl h
   ·exact .inr ⟨by omega,h2,h3⟩
theorem gbest_drop {tb:List (List Nat)} {n:Nat} (htb:∀ r ∈ tb,∀ t ∈ r,t < n) {acc:List Nat} (h:covL tb acc = false) :
 (gbest tb acc n).1 < n ∧ (lset tb (acc ++ [(gbest tb acc n).1])).length < (lset tb acc).length:=by
 have hpos:0 < (gbest tb acc n).2:=by
  unfold covL at h
  have h:=List.all_eq_false.1 h
  obtain ⟨r,hr,hu⟩:=h
  simp only [Bool.not_eq_true',Bool.not_eq_false] at hu
  have hu2:=hu
  unfold unc at hu
  simp only [Bool.and_eq_true,Bool.not_eq_true'] at hu
  cases r with
  | nil=>cases hu.1
  | cons t r=>
   have htn:=htb _ hr t (by simp)
   have h1:=gbest_ge tb acc n t htn
   have h2:0 < gcnt tb acc t:=(gcnt_pos tb acc t).2 (List.any_eq_true.2 ⟨_,hr,by rw [hu.2];simp⟩)
   omega
 rcases gbest_at tb acc n with h1|⟨h1,h2,h3⟩
 ·rw [h1] at hpos;cases hpos
 ·refine ⟨h1,?_⟩
  rw [← lset_drop (t:=(gbest tb acc n).1) fun r=>meets_snoc r acc _]
  have h4:0 < gcnt tb acc (gbest tb acc n).1:=by omega
  unfold gcnt at h4
  obtain ⟨y,hy1,hy2⟩:=List.countP_pos_iff.1 h4
  have hy2:y ∈ lset tb acc:=by simpa using hy2
  exact List.length_filter_lt_length_iff_exists.2 ⟨y,hy2,by simp [hy1]⟩
end Go.Pc
/- PcCir: circuits as plain data: nodes, how they are laid in cells; the small circuits of the statements. Plain definitions. -/
namespace Go.Pc
open Go.Ax
def intR (n:Nat):List AV:=[.int .i64 n]
def u8R (n:Nat):List AV:=[.int .u8 n]
attribute [go_sem] intR u8R List.length_map List.getElem?_map
end Go.Pc
/- PcSrt: an array of numbers as rows. -/
namespace Go.Pc
open Go.Ax Go.Sort
def rwA (d:Array Int):List (List AV):=d.toList.map fun x=>[AV.int .i64 x]
theorem rwA_len (d:Array Int):(rwA d).length = d.size:=by simp [rwA]
theorem rwA_get {d:Array Int} {rest:List (List AV)} {i:Nat} (h:i < d.size):(rwA d ++ rest)[i]? = some [AV.int .i64 d[i]!]:=by
 rw [List.getElem?_append_left (by rw [rwA_len];exact h)]
 unfold rwA
 rw [List.getElem?_map,Array.getElem?_toList,Array.getElem?_eq_getElem h,getElem!_pos d i h];rfl
theorem rwA_set {d:Array Int} {rest:List (List AV)} {i:Nat} {x:Int} (h:i < d.size):(rwA d ++ rest).set i [AV.int .i64 x] = rwA (d.setIfInBounds i x) ++ rest:=by
 rw [List.set_append_left _ _ (by rw [rwA_len];exact h)]
 unfold rwA
 rw [Array.toList_setIfInBounds,List.map_set]
theorem swp_size (d:Array Int) (i j:Nat):(swp d i j).size = d.size:=by simp [swp]
theorem rwA_swp {d:Array Int} {rest:List (List AV)} {i j:Nat} (hi:i < d.size) (hj:j < d.size):((rwA d ++ rest).set i [AV.int .i64 d[j]!]).set j [AV.int .i64 d[i]!] = rwA (swp d i j) ++ rest:=by
 rw [rwA_set hi,rwA_set (by simpa using hj)];rfl
theorem rwA_flat (d:Array Int):FlatR (rwA d):=FlatR.map fun _=>rfl
theorem rwA_flatA {d:Array Int} {rest:List (List AV)} (h:FlatR rest):FlatR (rwA d ++ rest):=by
 intro r hr
 rcases List.mem_append.1 hr with h'|h'
 ·exact rwA_flat d r h'
 ·exact h r h'
theorem rwA_get2 {d:Array Int} {rest:List (List AV)} {i j:Nat} {x:Int} (hi:i < d.size) (hj:j < d.size):∃ y,((rwA d ++ rest).set i [AV.int .i64 x])[j]? = some [AV.int .i64 y]:=by
 rw [rwA_set hi];exact ⟨_,rwA_get (by simpa using hj)⟩
end Go.Pc
/- PcSel: the steps of the greedy selection; arrays of numbers reversed. Plain. -/
namespace Go.Pc
open Go.Sort
def gsel (tb:List (List Nat)) (n:Nat):Nat → List Nat
 | 0=>[]
 | k + 1=>gsel tb n k ++ [(gbest tb (gsel tb n k) n).1]
theorem gsel_len (tb:List (List Nat)) (n k:Nat):(gsel tb n k).length = k:=by
 induction k with
 | zero=>rfl
 | succ k ih=>simp only [gsel,List.length_append,List.length_singleton,ih]
def GSel (tb:List (List Nat)) (n:Nat) (l:List Nat):Prop:=∃ k,l = gsel tb n k ∧ covL tb l = true ∧ ∀ j,j < k → covL tb (gsel tb n j) = false
theorem GSel.uniq {tb:List (List Nat)} {n:Nat} {a b:List Nat} (ha:GSel tb n a) (hb:GSel tb n b):a = b:=by
 obtain ⟨k,rfl,h1,h2⟩:=ha
 obtain ⟨j,rfl,h3,h4⟩:=hb
 have:k = j:=by
  rcases Nat.lt_trichotomy k j with h|h|h
  ·rw [h4 k h] at h1;cases h1
  ·exact h
  ·rw [h2 j h] at h3;cases h3
 subst this;rfl
theorem gsel_lt {tb:List (List Nat)} {n:Nat} (htb:∀ r ∈ tb,∀ t ∈ r,t < n):∀ k,(∀ j,j < k → covL tb (gsel tb n j) = false) → ∀ t ∈ gsel tb n k,t < n
 | 0,_,t,h=>by cases h
 | k + 1,hk,t,h=>by
  simp only [gsel,List.mem_append,List.mem_singleton] at h
  rcases h with h|rfl
  ·exact gsel_lt htb k (fun j hj=>hk j (by omega)) t h
  ·exact (gbest_drop htb (hk k (by omega))).1
theorem gsel_small {tb:List (List Nat)} {n:Nat} (htb:∀ r ∈ tb,∀ t ∈ r,t < n):∀ k,(∀ j,j < k → covL tb (gsel tb n j) = false) → (lset tb (gsel tb n k)).length + k ≤ tb.length
 | 0,_=>by
  simp only [gsel,Nat.add_zero]
  exact idxL_len _ _
 | k + 1,hk=>by
  have h1:=gsel_small htb k (fun j hj=>hk j (by omega))
  have h2:=(gbest_drop htb (hk k (by omega))).2
  simp only [gsel];omega
theorem later_len (tb:List (List Nat)):∀ t acc,(later tb t acc).length ≤ acc.length + t
 | 0,acc=>by simp [later]
 | t + 1,acc=>by
  simp only [later]
  by_cases h:0 < gcnt tb acc t
  ·rw [if_pos h]
   have:=later_len tb t (t :: acc)
   simp only [List.length_cons] at this;omega
  ·rw [if_neg h]
   have:=later_len tb t acc
   omega
def arN (l:List Nat):Array Int:=(l.map fun (n:Nat)=>(n:Int)).toArray
theorem rwA_arN (l:List Nat):rwA (arN l) = l.map intR:=by
 unfold rwA arN
 simp only [List.map_map];rfl
theorem arN_size (l:List Nat):(arN l).size = l.length:=by simp [arN]
theorem rev_arN (l:List Nat):rwA (reverseLoop 0 (l.length - 1) (arN l)) = l.reverse.map intR:=by
 have:=Go.Lib.reverseLoop_reverse (arN l)
 rw [arN_size] at this
 rw [this,← rwA_arN]
 unfold arN
 simp
theorem lset_nil (tb:List (List Nat)):lset tb [] = idxL tb.length fun k=>!(rowAt' tb k).isEmpty:=by
 unfold lset
 refine idxL_congr fun i _=>?_
 unfold unc meetsL
 simp
def hitR (acc:List Nat) (t:Nat) (r:List Nat):Bool:=r.contains t && !meetsL r acc
def anyT (tb:List (List Nat)) (acc:List Nat) (t i:Nat):Bool:=(tb.take i).any (hitR acc t)
def mcnt (tb:List (List Nat)) (acc:List Nat) (t i:Nat):Nat:=(tb.take i).countP (hitR acc t)
theorem anyT_succ {tb:List (List Nat)} {acc:List Nat} {t i:Nat} {r:List Nat} (h:tb[i]? = some r):anyT tb acc t (i + 1) = (anyT tb acc t i || hitR acc t r):=by
 unfold anyT;rw [List.take_add_one,h,List.any_append];simp
theorem mcnt_succ {tb:List (List Nat)} {acc:List Nat} {t i:Nat} {r:List Nat} (h:tb[i]? = some r):mcnt tb acc t (i + 1) = mcnt tb acc t i + if hitR acc t r then 1 else 0:=by
 unfold mcnt;rw [List.take_add_one,h,List.countP_append]
 simp only [Option.toList_some,List.countP_cons,List.countP_nil,Nat.zero_add]
theorem mcnt_le (tb:List (List Nat)) (acc:List Nat) (t i:Nat):mcnt tb acc t i ≤ i:=by
 unfold mcnt
 exact Nat.le_trans List.countP_le_length (by simp;omega)
theorem mcnt_end (tb:List (List Nat)) (acc:List Nat) (t:Nat):mcnt tb acc t tb.length = gcnt tb acc t:=by
 rw [gcnt_eq]
 unfold mcnt
 rw [List.take_length]
 have e:tb = (List.range tb.length).map (rowAt' tb):=by
  apply List.ext_getElem?
  intro j
  rw [List.getElem?_map]
  by_cases h:j < tb.length
  ·rw [List.getElem?_range h]
   simp only [Option.map_some,rowAt',List.getD_eq_getElem?_getD,List.getElem?_eq_getElem h,Option.getD_some]
  ·simp [h]
 conv=>lhs;rw [e]
 rw [List.countP_map]
 refine List.countP_congr fun i _=>?_
 unfold hitR
 simp only [Function.comp]
 cases h:(rowAt' tb i).contains t with
 | false=>simp
 | true=>rw [unc_contains h]
theorem anyT_end (tb:List (List Nat)) (acc:List Nat) (t:Nat):anyT tb acc t tb.length = decide (0 < gcnt tb acc t):=by
 rw [Bool.eq_iff_iff,decide_eq_true_eq,gcnt_pos]
 unfold anyT
 rw [List.take_length];rfl
end Go.Pc
