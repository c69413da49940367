/- PcPck: selections of tests: what remains uncovered. Plain. -/
import Derived.Test.YtbmkmaobejlkgaaDoorAxE
import Derived.Sort.AssemblyPlain
import Derived.Lib.SlicesMore
set_option linter.unusedSimpArgs false
set_option linter.unusedVariables false
namespace Go.Pc
def meetsL (a b:List Nat):Bool:=a.any fun x=>b.contains x
def unc (r acc:List Nat):Bool:=!r.isEmpty && !meetsL r acc
def covL (tb:List (List Nat)) (l:List Nat):Bool:=tb.all fun r=>!unc r l
def idxL (m:Nat) (p:Nat → Bool):List Int:=((List.range m).filter p).map fun (i:Nat)=>(i:Int)
theorem idxL_mem {m:Nat} {p:Nat → Bool} {z:Int}:z ∈ idxL m p ↔ ∃ i:Nat,z = i ∧ i < m ∧ p i = true:=by
 unfold idxL
 simp only [List.mem_map,List.mem_filter,List.mem_range]
 constructor
 ·rintro ⟨i,⟨h1,h2⟩,rfl⟩;exact ⟨i,rfl,h1,h2⟩
 ·rintro ⟨i,rfl,h1,h2⟩;exact ⟨i,⟨h1,h2⟩,rfl⟩
theorem idxL_memN {m:Nat} {p:Nat → Bool} {i:Nat}:(i:Int) ∈ idxL m p ↔ i < m ∧ p i = true:=by
 rw [idxL_mem]
 constructor
 ·rintro ⟨j,h,h1,h2⟩;have:i = j:=by omega
  subst this;exact ⟨h1,h2⟩
 ·rintro ⟨h1,h2⟩;exact ⟨i,rfl,h1,h2⟩
theorem idxL_congr {m:Nat} {p q:Nat → Bool} (h:∀ i,i < m → p i = q i):idxL m p = idxL m q:=by
 unfold idxL
 congr 1
 exact List.filter_congr fun i hi=>h i (List.mem_range.1 hi)
theorem idxL_filter {m:Nat} {p q:Nat → Bool} {f:Int → Bool} (h:∀ i:Nat,i < m → p i = true → f i = q i):(idxL m p).filter f = idxL m fun i=>p i && q i:=by
 unfold idxL
 rw [List.filter_map,List.filter_filter]
 congr 1
 refine List.filter_congr fun i hi=>?_
 have hm:=List.mem_range.1 hi
 simp only [Function.comp]
 cases hp:p i with
 | false=>simp
 | true=>simp [h i hm hp]
theorem idxL_nodup (m:Nat) (p:Nat → Bool):(idxL m p).Nodup:=by
 unfold idxL
 refine List.Pairwise.map _ (fun a b hab e=>hab (by omega)) (List.nodup_range.filter _)
theorem idxL_succ (m:Nat) (p:Nat → Bool):idxL (m + 1) p = idxL m p ++ if p m then [(m:Int)] else []:=by
 unfold idxL
 rw [List.range_succ,List.filter_append,List.map_append]
 congr 1
 cases h:p m<;>simp [h]
theorem idxL_len (m:Nat) (p:Nat → Bool):(idxL m p).length ≤ m:=by
 unfold idxL
 rw [List.length_map]
 exact Nat.le_trans (List.length_filter_le _ _) (by simp)
def rowAt' (tb:List (List Nat)) (i:Nat):List Nat:=tb.getD i []
def lset (tb:List (List Nat)) (acc:List Nat):List Int:=idxL tb.length fun i=>unc (rowAt' tb i) acc
def colI (tb:List (List Nat)) (t:Nat):List Int:=idxL tb.length fun i=>(rowAt' tb i).contains t
theorem meets_iff {a b:List Nat}:meetsL a b = true ↔ ∃ x ∈ a,x ∈ b:=by
 unfold meetsL;simp only [List.any_eq_true,List.contains_iff_mem]
theorem meets_snoc (r acc:List Nat) (t:Nat):meetsL r (acc ++ [t]) = (meetsL r acc || r.contains t):=by
 rw [Bool.eq_iff_iff,Bool.or_eq_true,meets_iff,meets_iff,List.contains_iff_mem]
 constructor
 ·rintro ⟨x,h1,h2⟩
  rcases List.mem_append.1 h2 with h2|h2
  ·exact .inl ⟨x,h1,h2⟩
  ·rw [List.mem_singleton] at h2;subst h2;exact .inr h1
 ·rintro (⟨x,h1,h2⟩|h)
  ·exact ⟨x,h1,List.mem_append_left _ h2⟩
  ·exact ⟨t,h,by simp⟩
theorem meets_cons (r acc:List Nat) (t:Nat):meetsL r (t :: acc) = (meetsL r acc || r.contains t):=by
 rw [Bool.eq_iff_iff,Bool.or_eq_true,meets_iff,meets_iff,List.contains_iff_mem]
 constructor
 ·rintro ⟨x,h1,h2⟩
  rcases List.mem_cons.1 h2 with rfl|h2
  ·exact .inr h1
  ·exact .inl ⟨x,h1,h2⟩
 ·rintro (⟨x,h1,h2⟩|h)
  ·exact ⟨x,h1,List.mem_cons_of_mem _ h2⟩
  ·exact ⟨t,h,by simp⟩
theorem unc_of {r acc acc':List Nat} {t:Nat} (h:meetsL r acc' = (meetsL r acc || r.contains t)):unc r acc' = (unc r acc && !r.contains t):=by
 unfold unc
 rw [h]
 cases r.isEmpty<;>cases meetsL r acc<;>cases r.contains t<;>rfl
theorem lset_drop {tb:List (List Nat)} {acc acc':List Nat} {t:Nat} (h:∀ r,meetsL r acc' = (meetsL r acc || r.contains t)):(lset tb acc).filter (fun y=>!(colI tb t).contains y) = lset tb acc':=by
 unfold lset
 rw [idxL_filter (q:=fun i=>!(rowAt' tb i).contains t) (fun i hi _=>by
  have:(colI tb t).contains (i:Int) = (rowAt' tb i).contains t:=by
   rw [Bool.eq_iff_iff,List.contains_iff_mem]
   unfold colI
   rw [idxL_memN]
   exact ⟨fun h=>h.2,fun h=>⟨hi,h⟩⟩
  rw [this])]
 exact idxL_congr fun i _=>(unc_of (h _)).symm
def gcnt (tb:List (List Nat)) (acc:List Nat) (t:Nat):Nat:=(colI tb t).countP fun y=>(lset tb acc).contains y
theorem gcnt_eq (tb:List (List Nat)) (acc:List Nat) (t:Nat):gcnt tb acc t = (List.range tb.length).countP fun i=>(rowAt' tb i).contains t && unc (rowAt' tb i) acc:=by
 unfold gcnt colI idxL
 rw [List.countP_map,List.countP_filter]
 refine List.countP_congr fun i hi=>?_
 have hm:=List.mem_range.1 hi
 simp only [Function.comp,Bool.and_eq_true,List.contains_iff_mem]
 unfold lset
 rw [idxL_memN]
 simp only [List.contains_iff_mem,hm,true_and]
 exact and_comm
theorem unc_contains {r acc:List Nat} {t:Nat} (h:r.contains t = true):unc r acc = !meetsL r acc:=by
 unfold unc
 cases r with
 | nil=>simp at h
 | cons=>rfl
theorem gcnt_pos (tb:List (List Nat)) (acc:List Nat) (t:Nat):0 < gcnt tb acc t ↔ (tb.any fun r=>r.contains t && !meetsL r acc) = true:=by
 rw [gcnt_eq,List.countP_pos_iff,List.any_eq_true]
 constructor
 ·rintro ⟨i,hi,h⟩
  have hm:=List.mem_range.1 hi
  simp only [Bool.and_eq_true] at h
  have hr:rowAt' tb i = tb[i]:=by unfold rowAt';rw [List.getD_eq_getElem?_getD,List.getElem?_eq_getElem hm];rfl
  rw [hr] at h
  refine ⟨tb[i],List.getElem_mem hm,?_⟩
  rw [← unc_contains h.1,h.1,h.2];rfl
 ·rintro ⟨r,hr,h⟩
  obtain ⟨i,hi,rfl⟩:=List.getElem_of_mem hr
  simp only [Bool.and_eq_true] at h
  refine ⟨i,List.mem_range.2 hi,?_⟩
  have hr:rowAt' tb i = tb[i]:=by unfold rowAt';rw [List.getD_eq_getElem?_getD,List.getElem?_eq_getElem hi];rfl
  rw [hr,unc_contains h.1,h.1,h.2];rfl
theorem lset_len0 (tb:List (List Nat)) (acc:List Nat):(lset tb acc).length = 0 ↔ covL tb acc = true:=by
 unfold covL
 rw [List.length_eq_zero_iff,List.all_eq_true,List.eq_nil_iff_forall_not_mem]
 constructor
 ·intro h r hr
  obtain ⟨i,hi,rfl⟩:=List.getElem_of_mem hr
  have h1:=h (i:Int)
  unfold lset at h1
  rw [idxL_memN] at h1
  have hr:rowAt' tb i = tb[i]:=by unfold rowAt';rw [List.getD_eq_getElem?_getD,List.getElem?_eq_getElem hi];rfl
  rw [hr] at h1
  cases hu:unc tb[i] acc with
  | false=>rfl
  | true=>exact absurd ⟨hi,hu⟩ h1
 ·intro h z hz
  unfold lset at hz
  obtain ⟨i,rfl,hi,hu⟩:=idxL_mem.1 hz
  have hr:rowAt' tb i = tb[i]:=by unfold rowAt';rw [List.getD_eq_getElem?_getD,List.getElem?_eq_getElem hi];rfl
  rw [hr] at hu
  have:=h _ (List.getElem_mem hi)
  rw [hu] at this;cases this
def later (tb:List (List Nat)):Nat → List Nat → List Nat
 | 0,acc=>acc
 | t + 1,acc=>later tb t (if 0 < gcnt tb acc t then t :: acc else acc)
theorem lset_same {tb:List (List Nat)} {acc:List Nat} {t:Nat} (h:gcnt tb acc t = 0):lset tb (t :: acc) = lset tb acc:=by
 unfold lset
 refine idxL_congr fun i hi=>?_
 rw [unc_of (meets_cons _ _ _)]
 rw [gcnt_eq,List.countP_eq_zero] at h
 have:=h i (List.mem_range.2 hi)
 simp only [Bool.and_eq_true,not_and,Bool.not_eq_true] at this
 cases hc:(rowAt' tb i).contains t with
 | false=>simp
 | true=>rw [this hc];rfl
def gbest (tb:List (List Nat)) (acc:List Nat):Nat → Nat × Nat
 | 0=>(0,0)
 | t + 1=>if (gbest tb acc t).2 < gcnt tb acc t then (t,gcnt tb acc t) else gbest tb acc t
theorem gbest_ge (tb:List (List Nat)) (acc:List Nat):∀ n t,t < n → gcnt tb acc t ≤ (gbest tb acc n).2
 | 0,t,h=>by omega
 | n + 1,t,h=>by
  simp only [gbest]
  rcases Nat.lt_succ_iff_lt_or_eq.1 h with h1|rfl
  ·have:=gbest_ge tb acc n t h1
   split<;>(try simp only)<;>omega
  ·split<;>(try simp only)<;>omega
theorem gbest_at (tb:List (List Nat)) (acc:List Nat):∀ n,(gbest tb acc n = (0,0)) ∨ ((gbest tb acc n).1 < n ∧ gcnt tb acc (gbest tb acc n).1 = (gbest tb acc n).2 ∧ 0 < (gbest tb acc n).2)
 | 0=>.inl rfl
 | n + 1=>by
  simp only [gbest]
  split
  ·rename_i h;exact .inr ⟨Nat.lt_succ_self n,rfl,by simp only;omega⟩
  ·rcases gbest_at tb acc n with h|⟨h1,h2,h3⟩
   ·exact .inl h
   ·exact .inr ⟨by omega,h2,h3⟩
theorem gbest_drop {tb:List (List Nat)} {n:Nat} (htb:∀ r ∈ tb,∀ t ∈ r,t < n) {acc:List Nat} (h:covL tb acc = false) :
 (gbest tb acc n).1 < n ∧ (lset tb (acc ++ [(gbest tb acc n).1])).length < (lset tb acc).length:=by
 have hpos:0 < (gbest tb acc n).2:=by
  unfold covL at h
  have h:=List.all_eq_false.1 h
  obtain ⟨r,hr,hu⟩:=h
  simp only [Bool.not_eq_true',Bool.not_eq_false] at hu
  have hu2:=hu
  unfold unc at hu
  simp only [Bool.and_eq_true,Bool.not_eq_true'] at hu
  cases r with
  | nil=>cases hu.1
  | cons t r=>
   have htn:=htb _ hr t (by simp)
   have h1:=gbest_ge tb acc n t htn
   have h2:0 < gcnt tb acc t:=(gcnt_pos tb acc t).2 (List.any_eq_true.2 ⟨_,hr,by rw [hu.2];simp⟩)
   omega
 rcases gbest_at tb acc n with h1|⟨h1,h2,h3⟩
 ·rw [h1] at hpos;cases hpos
 ·refine ⟨h1,?_⟩
  rw [← lset_drop (t:=(gbest tb acc n).1) fun r=>meets_snoc r acc _]
  have h4:0 < gcnt tb acc (gbest tb acc n).1:=by omega
  unfold gcnt at h4
  obtain ⟨y,hy1,hy2⟩:=List.countP_pos_iff.1 h4
  have hy2:y ∈ lset tb acc:=by simpa using hy2
  exact List.length_filter_lt_length_iff_exists.2 ⟨y,hy2,by simp [hy1]⟩
end Go.Pc
/- PcCir: circuits as plain data: nodes, how they are laid in cells; the small circuits of the statements. Plain definitions. -/
namespace Go.Pc
open Go.Ax
def intR (n:Nat):List AV:=[.int .i64 n]
def u8R (n:Nat):List AV:=[.int .u8 n]
attribute [go_sem] intR u8R List.length_map List.getElem?_map
end Go.Pc
/- PcSrt: an array of numbers as rows. -/
namespace Go.Pc
open Go.Ax Go.Sort
def rwA (d:Array Int):List (List AV):=d.toList.map fun x=>[AV.int .i64 x]
theorem rwA_len (d:Array Int):(rwA d).length = d.size:=by simp [rwA]
theorem rwA_get {d:Array Int} {rest:List (List AV)} {i:Nat} (h:i < d.size):(rwA d ++ rest)[i]? = some [AV.int .i64 d[i]!]:=by
 rw [List.getElem?_append_left (by rw [rwA_len];exact h)]
 unfold rwA
 rw [List.getElem?_map,Array.getElem?_toList,Array.getElem?_eq_getElem h,getElem!_pos d i h];rfl
theorem rwA_set {d:Array Int} {rest:List (List AV)} {i:Nat} {x:Int} (h:i < d.size):(rwA d ++ rest).set i [AV.int .i64 x] = rwA (d.setIfInBounds i x) ++ rest:=by
 rw [List.set_append_left _ _ (by rw [rwA_len];exact h)]
 unfold rwA
 rw [Array.toList_setIfInBounds,List.map_set]
theorem swp_size (d:Array Int) (i j:Nat):(swp d i j).size = d.size:=by simp [swp]
theorem rwA_swp {d:Array Int} {rest:List (List AV)} {i j:Nat} (hi:i < d.size) (hj:j < d.size):((rwA d ++ rest).set i [AV.int .i64 d[j]!]).set j [AV.int .i64 d[i]!] = rwA (swp d i j) ++ rest:=by
 rw [rwA_set hi,rwA_set (by simpa using hj)];rfl
theorem rwA_flat (d:Array Int):FlatR (rwA d):=FlatR.map fun _=>rfl
theorem rwA_flatA {d:Array Int} {rest:List (List AV)} (h:FlatR rest):FlatR (rwA d ++ rest):=by
 intro r hr
 rcases List.mem_append.1 hr with h'|h'
 ·exact rwA_flat d r h'
 ·exact h r h'
theorem insInner_S (a j:Nat) (d:Array Int):insInner ltInt a (j + 1) d = if j + 1 > a && ltInt d[j + 1]! d[j]! then insInner ltInt a j (swp d (j + 1) j) else d:=by rfl
theorem insOuter_E (a b i:Nat) (d:Array Int):insOuter ltInt a b i d = if i < b then insOuter ltInt a b (i + 1) (insInner ltInt a i d) else d:=by conv=>lhs;unfold insOuter
theorem rwA_get2 {d:Array Int} {rest:List (List AV)} {i j:Nat} {x:Int} (hi:i < d.size) (hj:j < d.size):∃ y,((rwA d ++ rest).set i [AV.int .i64 x])[j]? = some [AV.int .i64 y]:=by
 rw [rwA_set hi];exact ⟨_,rwA_get (by simpa using hj)⟩
theorem siftDown_E (hi f r:Nat) (d:Array Int):siftDown ltInt hi f r d = if 2 * r + 1 ≥ hi then d else
 if 2 * r + 1 + 1 < hi && ltInt d[f + (2 * r + 1)]! d[f + (2 * r + 1) + 1]! then
  (if !ltInt d[f + r]! d[f + (2 * r + 2)]! then d else if 2 * r + 2 < hi then siftDown ltInt hi f (2 * r + 2) (swp d (f + r) (f + (2 * r + 2))) else d)
 else (if !ltInt d[f + r]! d[f + (2 * r + 1)]! then d else siftDown ltInt hi f (2 * r + 1) (swp d (f + r) (f + (2 * r + 1)))):=by
 conv=>lhs;unfold siftDown
 simp only [dite_eq_ite]
theorem scanUp_E (p:Int → Bool) (d:Array Int) (j i:Nat):scanUp p d j i = if i ≤ j && p d[i]! then scanUp p d j (i + 1) else i:=by conv=>lhs;unfold scanUp
theorem scanDown_S (p:Int → Bool) (d:Array Int) (i j:Nat):scanDown p d i (j + 1) = if i ≤ j + 1 && p d[j + 1]! then scanDown p d i j else j + 1:=rfl
theorem partLoop_E (a i j:Nat) (d:Array Int):partLoop ltInt a i j d = if scanUp (fun x=>ltInt x d[a]!) d j i > scanDown (fun x=>!ltInt x d[a]!) d (scanUp (fun x=>ltInt x d[a]!) d j i) j then (scanDown (fun x=>!ltInt x d[a]!) d (scanUp (fun x=>ltInt x d[a]!) d j i) j,d) else
 if scanDown (fun x=>!ltInt x d[a]!) d (scanUp (fun x=>ltInt x d[a]!) d j i) j - 1 + 1 - (scanUp (fun x=>ltInt x d[a]!) d j i + 1) < j + 1 - i then partLoop ltInt a (scanUp (fun x=>ltInt x d[a]!) d j i + 1) (scanDown (fun x=>!ltInt x d[a]!) d (scanUp (fun x=>ltInt x d[a]!) d j i) j - 1) (swp d (scanUp (fun x=>ltInt x d[a]!) d j i) (scanDown (fun x=>!ltInt x d[a]!) d (scanUp (fun x=>ltInt x d[a]!) d j i) j)) else (scanDown (fun x=>!ltInt x d[a]!) d (scanUp (fun x=>ltInt x d[a]!) d j i) j,d):=by
 conv=>lhs;unfold partLoop
 simp only [dite_eq_ite]
end Go.Pc
/- PcSel: the steps of the greedy selection; arrays of numbers reversed. Plain. -/
namespace Go.Pc
open Go.Sort
def gsel (tb:List (List Nat)) (n:Nat):Nat → List Nat
 | 0=>[]
 | k + 1=>gsel tb n k ++ [(gbest tb (gsel tb n k) n).1]
theorem gsel_len (tb:List (List Nat)) (n k:Nat):(gsel tb n k).length = k:=by
 induction k with
 | zero=>rfl
 | succ k ih=>simp only [gsel,List.length_append,List.length_singleton,ih]
def GSel (tb:List (List Nat)) (n:Nat) (l:List Nat):Prop:=∃ k,l = gsel tb n k ∧ covL tb l = true ∧ ∀ j,j < k → covL tb (gsel tb n j) = false
theorem gsel_lt {tb:List (List Nat)} {n:Nat} (htb:∀ r ∈ tb,∀ t ∈ r,t < n):∀ k,(∀ j,j < k → covL tb (gsel tb n j) = false) → ∀ t ∈ gsel tb n k,t < n
 | 0,_,t,h=>by cases h
 | k + 1,hk,t,h=>by
  simp only [gsel,List.mem_append,List.mem_singleton] at h
  rcases h with h|rfl
  ·exact gsel_lt htb k (fun j hj=>hk j (by omega)) t h
  ·exact (gbest_drop htb (hk k (by omega))).1
theorem gsel_small {tb:List (List Nat)} {n:Nat} (htb:∀ r ∈ tb,∀ t ∈ r,t < n):∀ k,(∀ j,j < k → covL tb (gsel tb n j) = false) → (lset tb (gsel tb n k)).length + k ≤ tb.length
 | 0,_=>by
  simp only [gsel,Nat.add_zero]
  exact idxL_len _ _
 | k + 1,hk=>by
  have h1:=gsel_small htb k (fun j hj=>hk j (by omega))
  have h2:=(gbest_drop htb (hk k (by omega))).2
  simp only [gsel];omega
theorem later_lt (tb:List (List Nat)) (n:Nat):∀ t acc,t ≤ n → (∀ x ∈ acc,x < n) → ∀ x ∈ later tb t acc,x < n
 | 0,acc,_,h=>h
 | t + 1,acc,ht,h=>by
  refine later_lt tb n t _ (by omega) ?_
  split
  ·intro x hx
   rcases List.mem_cons.1 hx with rfl|hx
   ·omega
   ·exact h x hx
  ·exact h
theorem later_len (tb:List (List Nat)):∀ t acc,(later tb t acc).length ≤ acc.length + t
 | 0,acc=>by simp [later]
 | t + 1,acc=>by
  simp only [later]
  by_cases h:0 < gcnt tb acc t
  ·rw [if_pos h]
   have:=later_len tb t (t :: acc)
   simp only [List.length_cons] at this;omega
  ·rw [if_neg h]
   have:=later_len tb t acc
   omega
def arN (l:List Nat):Array Int:=(l.map fun (n:Nat)=>(n:Int)).toArray
theorem rwA_arN (l:List Nat):rwA (arN l) = l.map intR:=by
 unfold rwA arN
 simp only [List.map_map];rfl
theorem arN_size (l:List Nat):(arN l).size = l.length:=by simp [arN]
theorem rev_arN (l:List Nat):rwA (reverseLoop 0 (l.length - 1) (arN l)) = l.reverse.map intR:=by
 have:=Go.Lib.reverseLoop_reverse (arN l)
 rw [arN_size] at this
 rw [this,← rwA_arN]
 unfold arN
 simp
theorem lset_nil (tb:List (List Nat)):lset tb [] = idxL tb.length fun k=>!(rowAt' tb k).isEmpty:=by
 unfold lset
 refine idxL_congr fun i _=>?_
 unfold unc meetsL
 simp
end Go.Pc
/- PcSrt2: pdqsort's round, in steps. -/
namespace Go.Pc
open Go.Ax Go.Sort
def pdq3 (d3:Array Int) (a b limit:Nat) (wb wp:Bool) (pivot:Nat):Array Int:=
 if a > 0 && !ltInt d3[a - 1]! d3[pivot]! then
  match partitionEqual ltInt d3 a b pivot with
  | (mid,d4)=>if a < mid ∧ mid ≤ b then pdq ltInt d4 mid b limit wb wp else d4
 else
  match partition ltInt d3 a b pivot with
  | (mid,ap,d4)=>
   if a ≤ mid ∧ mid < b then
    if mid - a < b - mid then pdq ltInt (pdq ltInt d4 a mid limit true true) (mid + 1) b limit (decide (mid - a ≥ (b - a) / 8)) ap
    else pdq ltInt (pdq ltInt d4 (mid + 1) b limit true true) a mid limit (decide (b - mid ≥ (b - a) / 8)) ap
   else d4
def pdq2 (d2:Array Int) (a b limit:Nat) (wb wp:Bool) (pivot:Nat) (hint:Hint):Array Int:=
 let pi:=if wb && wp && hint = .increasing then partialInsertionSort ltInt d2 a b else (d2,false)
 if pi.2 then pi.1 else pdq3 pi.1 a b limit wb wp pivot
def pdq1 (d1:Array Int) (a b limit:Nat) (wb wp:Bool):Array Int:=
 let c:=choosePivot ltInt d1 a b
 if c.2 = .decreasing then pdq2 (reverseRange d1 a b) a b limit wb wp ((b - 1) - (c.1 - a)) .increasing
 else pdq2 d1 a b limit wb wp c.1 c.2
theorem pdq_E (d:Array Int) (a b limit:Nat) (wb wp:Bool):pdq ltInt d a b limit wb wp = if b - a ≤ 12 then insertionSort ltInt d a b else if limit = 0 then heapSort ltInt d a b else
 pdq1 (if !wb then breakPatterns d a b else d) a b (if !wb then limit - 1 else limit) wb wp:=by
 conv=>lhs;unfold pdq
 unfold pdq1 pdq2 pdq3
 simp only [dite_eq_ite]
 by_cases h1:b - a ≤ 12
 ·rw [if_pos h1,if_pos h1]
 ·rw [if_neg h1,if_neg h1]
  by_cases h2:limit = 0
  ·rw [if_pos h2,if_pos h2]
  ·rw [if_neg h2,if_neg h2]
   by_cases h3:(choosePivot ltInt (if (!wb) = true then breakPatterns d a b else d) a b).2 = Hint.decreasing
   ·simp only [h3,if_true]
   ·simp only [h3,if_false]
end Go.Pc
/- PcCmp: neighbours that are equal are struck. -/
namespace Go.Pc
def ddF:Int → List Int → List Int
 | _,[]=>[]
 | p,x :: l=>if x = p then ddF p l else x :: ddF x l
def dd:List Int → List Int
 | []=>[]
 | x :: l=>x :: ddF x l
theorem ddF_snoc:∀ (l:List Int) (p y x:Int),ddF p (l ++ [y,x]) = ddF p (l ++ [y]) ++ if x = y then [] else [x]
 | [],p,y,x=>by
  simp only [List.nil_append,ddF]
  by_cases h:y = p
  ·subst h;simp
  ·simp [h]
 | z :: l,p,y,x=>by
  simp only [List.cons_append,ddF]
  split
  ·exact ddF_snoc l p y x
  ·rw [ddF_snoc l z y x];rfl
theorem dd_snoc (l:List Int) (y x:Int):dd (l ++ [y,x]) = dd (l ++ [y]) ++ if x = y then [] else [x]:=by
 cases l with
 | nil=>simp only [List.nil_append,dd,ddF];by_cases h:x = y<;>simp [h]
 | cons z l=>simp only [List.cons_append,dd];rw [ddF_snoc]
theorem tk_snoc {S:List Int} {j:Nat} {x:Int} (h:S[j]? = some x):S.take (j + 1) = S.take j ++ [x]:=by rw [List.take_add_one,h];rfl
theorem dd_take {S:List Int} {j:Nat} {x y:Int} (hy:S[j]? = some y) (hx:S[j + 1]? = some x):dd (S.take (j + 2)) = dd (S.take (j + 1)) ++ if x = y then [] else [x]:=by
 rw [tk_snoc hx,tk_snoc hy,List.append_assoc];exact dd_snoc _ _ _
theorem ddF_mem:∀ (l:List Int) (p z:Int),(z = p ∨ z ∈ ddF p l) ↔ (z = p ∨ z ∈ l)
 | [],p,z=>by simp [ddF]
 | x :: l,p,z=>by
  simp only [ddF]
  by_cases h:x = p
  ·subst h
   rw [if_pos rfl,ddF_mem l x z];simp [or_assoc]
  ·rw [if_neg h]
   simp only [List.mem_cons]
   rw [ddF_mem l x z]
theorem dd_mem (l:List Int) (z:Int):z ∈ dd l ↔ z ∈ l:=by
 cases l with
 | nil=>rfl
 | cons x l=>simp only [dd,List.mem_cons];exact ddF_mem l x z
theorem ddF_lt:∀ (l:List Int) (p:Int),(p :: l).Pairwise (·≤ ·) → (p :: ddF p l).Pairwise (·< ·)
 | [],p,_=>by simp [ddF]
 | x :: l,p,h=>by
  simp only [List.pairwise_cons,List.mem_cons] at h
  obtain ⟨h1,h2,h3⟩:=h
  simp only [ddF]
  by_cases hx:x = p
  ·subst hx
   rw [if_pos rfl]
   exact ddF_lt l x (List.pairwise_cons.2 ⟨h2,h3⟩)
  ·rw [if_neg hx]
   have ih:=ddF_lt l x (List.pairwise_cons.2 ⟨h2,h3⟩)
   have hpx:=h1 x (.inl rfl)
   refine List.pairwise_cons.2 ⟨fun z hz=>?_,ih⟩
   rcases List.mem_cons.1 hz with rfl|hz
   ·omega
   ·have:=(List.pairwise_cons.1 ih).1 z hz;omega
theorem dd_lt (l:List Int) (h:l.Pairwise (·≤ ·)):(dd l).Pairwise (·< ·):=by
 cases l with
 | nil=>exact List.Pairwise.nil
 | cons x l=>exact ddF_lt l x h
end Go.Pc
/- PcLst: the least selections. Plain. -/
namespace Go.Pc
def bitsN (x t:Nat):List Nat:=(List.range t).filter fun t=>decide (x / 2 ^ t % 2 = 1)
theorem bitsN_mem {x n t:Nat}:t ∈ bitsN x n ↔ t < n ∧ x / 2 ^ t % 2 = 1:=by
 unfold bitsN;rw [List.mem_filter,List.mem_range,decide_eq_true_eq]
theorem bitsN_len (x n:Nat):(bitsN x n).length ≤ n:=Nat.le_trans (List.length_filter_le _ _) (by simp)
theorem bitsN_nodup (x n:Nat):(bitsN x n).Nodup:=List.nodup_range.filter _
theorem bit_succ (x t:Nat):x / 2 ^ (t + 1) % 2 = x / 2 / 2 ^ t % 2:=by
 rw [Nat.pow_succ,Nat.mul_comm,Nat.div_div_eq_div_mul]
theorem bitsN_succ (x n:Nat):bitsN x (n + 1) = (if x % 2 = 1 then [0] else []) ++ (bitsN (x / 2) n).map (·+ 1):=by
 unfold bitsN
 rw [List.range_succ_eq_map,List.filter_cons,List.filter_map]
 simp only [Nat.pow_zero,Nat.div_one,decide_eq_true_eq]
 have:List.filter ((fun t=>decide (x / 2 ^ t % 2 = 1)) ∘ Nat.succ) (List.range n) = List.filter (fun t=>decide (x / 2 / 2 ^ t % 2 = 1)) (List.range n):=by
  refine List.filter_congr fun t _=>?_
  simp only [Function.comp,Nat.succ_eq_add_one,bit_succ]
 rw [this]
 split<;>rfl
def firstL:List Nat → List Nat → Bool
 | x :: a,y :: b=>if x = y then firstL a b else decide (x < y)
 | _,_=>false
theorem firstL_map:∀ a b:List Nat,firstL (a.map (·+ 1)) (b.map (·+ 1)) = firstL a b
 | [],_=>by simp [firstL]
 | _ :: _,[]=>by simp [firstL]
 | x :: a,y :: b=>by
  simp only [List.map_cons,firstL]
  by_cases h:x = y
  ·rw [if_pos h,if_pos (by omega),firstL_map a b]
  ·rw [if_neg h,if_neg (by omega)]
   simp
theorem firstL_self:∀ a:List Nat,firstL a a = false
 | []=>rfl
 | x :: a=>by simp only [firstL,if_true,firstL_self a]
def lowB:Nat → Nat → Nat → Bool
 | 0,_,_=>false
 | n + 1,x,y=>if x % 2 = y % 2 then lowB n (x / 2) (y / 2) else decide (x % 2 = 1)
theorem first_low:∀ (n x y:Nat),(bitsN x n).length = (bitsN y n).length → firstL (bitsN x n) (bitsN y n) = lowB n x y
 | 0,x,y,_=>rfl
 | n + 1,x,y,h=>by
  rw [bitsN_succ,bitsN_succ] at h ⊢
  simp only [lowB]
  have hx:=Nat.mod_two_eq_zero_or_one x
  have hy:=Nat.mod_two_eq_zero_or_one y
  rcases hx with hx|hx<;>rcases hy with hy|hy
  ·rw [hx,hy] at h ⊢
   simp only [Nat.zero_ne_one,if_false,List.nil_append,List.length_map,if_true] at h ⊢
   rw [firstL_map];exact first_low n _ _ h
  ·rw [hx,hy] at h ⊢
   simp only [Nat.zero_ne_one,if_false,List.nil_append,List.length_map,if_true,List.singleton_append,List.length_cons] at h ⊢
   cases hb:bitsN (x / 2) n with
   | nil=>simp [firstL]
   | cons a r=>simp [firstL]
  ·rw [hx,hy] at h ⊢
   simp only [Nat.zero_ne_one,Nat.one_ne_zero,if_false,List.nil_append,List.length_map,if_true,List.singleton_append,List.length_cons] at h ⊢
   cases hb:bitsN (y / 2) n with
   | nil=>rw [hb] at h;simp at h
   | cons a r=>simp [firstL]
  ·rw [hx,hy] at h ⊢
   simp only [if_true,List.singleton_append,List.length_cons,List.length_map,firstL] at h ⊢
   rw [firstL_map];exact first_low n _ _ (by omega)
theorem lowB_at:∀ (n t x y:Nat),t < n → (∀ s,s < t → x / 2 ^ s % 2 = y / 2 ^ s % 2) → x / 2 ^ t % 2 ≠ y / 2 ^ t % 2 → lowB n x y = decide (x / 2 ^ t % 2 = 1)
 | 0,t,_,_,h,_,_=>by omega
 | n + 1,0,x,y,_,_,h=>by
  simp only [Nat.pow_zero,Nat.div_one] at h ⊢
  simp only [lowB,if_neg h]
 | n + 1,t + 1,x,y,ht,h1,h2=>by
  have h0:=h1 0 (by omega)
  simp only [Nat.pow_zero,Nat.div_one] at h0
  simp only [lowB,if_pos h0]
  rw [bit_succ,bit_succ] at h2
  rw [bit_succ]
  refine lowB_at n t (x / 2) (y / 2) (by omega) (fun s hs=>?_) h2
  have:=h1 (s + 1) (by omega)
  rwa [bit_succ,bit_succ] at this
theorem bit_test (x t:Nat):decide (x / 2 ^ t % 2 = 1) = x.testBit t:=(Nat.testBit_eq_decide_div_mod_eq ..).symm
def tzN (z:Nat):Nat:=((List.range 8).find? fun t=>decide (z / 2 ^ t % 2 = 1)).getD 64
def popN (x:Nat):Nat:=(bitsN x 8).length
theorem bit_zero {x n t:Nat} (hx:x < 2 ^ n) (ht:n ≤ t):x / 2 ^ t % 2 = 0:=by
 have:x < 2 ^ t:=Nat.lt_of_lt_of_le hx (Nat.pow_le_pow_right (by omega) ht)
 rw [Nat.div_eq_of_lt this]
theorem bitsN_more {x n m:Nat} (hx:x < 2 ^ n) (h:n ≤ m):bitsN x m = bitsN x n:=by
 obtain ⟨k,rfl⟩:=Nat.exists_eq_add_of_le h
 induction k with
 | zero=>rfl
 | succ k ih=>
  have e:bitsN x (n + (k + 1)) = bitsN x (n + k) ++ (if x / 2 ^ (n + k) % 2 = 1 then [n + k] else []):=by
   unfold bitsN
   rw [← Nat.add_assoc,List.range_succ,List.filter_append]
   congr 1
   by_cases h:x / 2 ^ (n + k) % 2 = 1<;>simp [h]
  rw [e,bit_zero hx (by omega)]
  simp only [Nat.zero_ne_one,if_false,List.append_nil]
  exact ih (by omega)
theorem popN_eq {x n:Nat} (hx:x < 2 ^ n) (h:n ≤ 8):popN x = (bitsN x n).length:=by unfold popN;rw [bitsN_more hx h]
theorem tzN_spec {x y n:Nat} (hx:x < 2 ^ n) (hy:y < 2 ^ n) (hn:n ≤ 8) (hne:x ≠ y) :
 tzN (x ^^^ y) < n ∧ (∀ s,s < tzN (x ^^^ y) → x / 2 ^ s % 2 = y / 2 ^ s % 2) ∧ x / 2 ^ tzN (x ^^^ y) % 2 ≠ y / 2 ^ tzN (x ^^^ y) % 2:=by
 have hbit:∀ t,((x ^^^ y) / 2 ^ t % 2 = 1) ↔ x / 2 ^ t % 2 ≠ y / 2 ^ t % 2:=by
  intro t
  rw [← decide_eq_true_iff (p:=(x ^^^ y) / 2 ^ t % 2 = 1),bit_test,Nat.testBit_xor,← bit_test,← bit_test]
  have hx:=Nat.mod_two_eq_zero_or_one (x / 2 ^ t)
  have hy:=Nat.mod_two_eq_zero_or_one (y / 2 ^ t)
  rcases hx with hx|hx<;>rcases hy with hy|hy<;>rw [hx,hy]<;>simp
 have hex:∃ t,t < 8 ∧ x / 2 ^ t % 2 ≠ y / 2 ^ t % 2:=by
  refine Classical.byContradiction fun hno=>hne (Nat.eq_of_testBit_eq fun t=>?_)
  rw [← bit_test,← bit_test]
  by_cases ht:t < 8
  ·have:=Classical.not_not.1 fun h=>hno ⟨t,ht,h⟩
   rw [this]
  ·rw [bit_zero hx (by omega),bit_zero hy (by omega)]
 unfold tzN
 cases hf:(List.range 8).find? fun t=>decide ((x ^^^ y) / 2 ^ t % 2 = 1) with
 | none=>
  rw [List.find?_eq_none] at hf
  obtain ⟨t,ht,h⟩:=hex
  exact absurd (decide_eq_true ((hbit t).2 h)) (hf t (List.mem_range.2 ht))
 | some t=>
  simp only [Option.getD_some]
  have hm:=List.find?_range_eq_some.1 hf
  obtain ⟨h1,h2,h3⟩:=hm
  simp only [decide_eq_true_eq] at h1
  have h4:=(hbit t).1 h1
  refine ⟨?_,fun s hs=>?_,h4⟩
  ·refine Classical.byContradiction fun hge=>h4 ?_
   rw [bit_zero hx (by omega),bit_zero hy (by omega)]
  ·refine Classical.not_not.1 fun h=>?_
   have:=h3 s hs
   simp only [Bool.not_eq_true',decide_eq_false_iff_not] at this
   exact this ((hbit s).2 h)
def befN (x y:Nat):Bool:=decide (popN x < popN y) || (decide (popN x = popN y) && (!decide (x = y) && decide (x / 2 ^ tzN (x ^^^ y) % 2 = 1)))
theorem befN_eq {x y n:Nat} (hx:x < 2 ^ n) (hy:y < 2 ^ n) (hn:n ≤ 8) :
 befN x y = (decide ((bitsN x n).length < (bitsN y n).length) || (decide ((bitsN x n).length = (bitsN y n).length) && firstL (bitsN x n) (bitsN y n))):=by
 unfold befN
 rw [popN_eq hx hn,popN_eq hy hn]
 by_cases hl:(bitsN x n).length = (bitsN y n).length
 ·rw [decide_eq_true hl,Bool.true_and,Bool.true_and]
  congr 1
  by_cases he:x = y
  ·subst he;rw [firstL_self];simp
  ·obtain ⟨h1,h2,h3⟩:=tzN_spec hx hy hn he
   rw [first_low n x y hl,lowB_at n _ x y h1 h2 h3]
   simp [he]
 ·rw [decide_eq_false hl];simp
def lbest (tb:List (List Nat)) (n:Nat):Nat → Nat
 | 0=>2 ^ n - 1
 | k + 1=>if covL tb (bitsN k n) && befN k (lbest tb n k) then k else lbest tb n k
def foundB (tb:List (List Nat)) (n k:Nat):Bool:=(List.range k).any fun x=>covL tb (bitsN x n)
theorem foundB_succ (tb:List (List Nat)) (n k:Nat):foundB tb n (k + 1) = (foundB tb n k || covL tb (bitsN k n)):=by
 unfold foundB;rw [List.range_succ,List.any_append];simp
theorem cov_mono {tb:List (List Nat)} {a b:List Nat} (h:∀ r ∈ tb,∀ t ∈ r,t ∈ a → t ∈ b) (ha:covL tb a = true):covL tb b = true:=by
 unfold covL at ha ⊢
 rw [List.all_eq_true] at ha ⊢
 intro r hr
 have:=ha r hr
 unfold unc at this ⊢
 cases r with
 | nil=>rfl
 | cons x r=>
  simp only [List.isEmpty_cons,Bool.not_false,Bool.true_and,Bool.not_not] at this ⊢
  rw [meets_iff] at this ⊢
  obtain ⟨t,h1,h2⟩:=this
  exact ⟨t,h1,h _ hr t h1 h2⟩
theorem bits_full {n t:Nat} (h:t < n):(2 ^ n - 1) / 2 ^ t % 2 = 1:=by
 have:=Nat.testBit_two_pow_sub_one n t
 rw [← bit_test] at this
 simpa [h] using this
theorem cov_full {tb:List (List Nat)} {n:Nat} (htb:∀ r ∈ tb,∀ t ∈ r,t < n):covL tb (bitsN (2 ^ n - 1) n) = true:=by
 unfold covL
 rw [List.all_eq_true]
 intro r hr
 unfold unc
 cases r with
 | nil=>rfl
 | cons x r=>
  simp only [List.isEmpty_cons,Bool.not_false,Bool.true_and,Bool.not_not]
  rw [meets_iff]
  have:=htb _ hr x (by simp)
  exact ⟨x,by simp,bitsN_mem.2 ⟨this,bits_full this⟩⟩
theorem lbest_lt (tb:List (List Nat)) (n:Nat):∀ k,k ≤ 2 ^ n → lbest tb n k < 2 ^ n
 | 0,_=>by have:=Nat.two_pow_pos n;simp only [lbest];omega
 | k + 1,h=>by
  simp only [lbest]
  split
  ·omega
  ·exact lbest_lt tb n k (by omega)
theorem lbest_cov {tb:List (List Nat)} {n:Nat} (htb:∀ r ∈ tb,∀ t ∈ r,t < n):∀ k,covL tb (bitsN (lbest tb n k) n) = true
 | 0=>cov_full htb
 | k + 1=>by
  simp only [lbest]
  split
  ·rename_i h;simp only [Bool.and_eq_true] at h;exact h.1
  ·exact lbest_cov htb k
theorem lbest_none {tb:List (List Nat)} {n k:Nat} (h:foundB tb n k = false):lbest tb n k = 2 ^ n - 1:=by
 induction k with
 | zero=>rfl
 | succ k ih=>
  rw [foundB_succ,Bool.or_eq_false_iff] at h
  simp only [lbest,h.2,Bool.false_and,Bool.false_eq_true,if_false]
  exact ih h.1
theorem popN_mono {x y:Nat} (h:befN x y = true):popN x ≤ popN y:=by
 unfold befN at h
 simp only [Bool.or_eq_true,decide_eq_true_eq,Bool.and_eq_true] at h
 omega
theorem befN_not {x y:Nat} (h:befN x y = false):popN y ≤ popN x:=by
 unfold befN at h
 simp only [Bool.or_eq_false_iff,decide_eq_false_iff_not] at h
 omega
theorem lbest_pop {tb:List (List Nat)} {n:Nat}:∀ k x,x < k → covL tb (bitsN x n) = true → popN (lbest tb n k) ≤ popN x
 | 0,x,h,_=>by omega
 | k + 1,x,h,hc=>by
  simp only [lbest]
  rcases Nat.lt_succ_iff_lt_or_eq.1 h with h1|rfl
  ·have ih:=lbest_pop k x h1 hc
   split
   ·rename_i hb;simp only [Bool.and_eq_true] at hb
    exact Nat.le_trans (popN_mono hb.2) ih
   ·exact ih
  ·rw [hc,Bool.true_and]
   split
   ·exact Nat.le_refl _
   ·rename_i hb;exact befN_not (by simpa using hb)
theorem law_step {tb:List (List Nat)} {n k:Nat} (htb:∀ r ∈ tb,∀ t ∈ r,t < n) (hn:n ≤ 8) (hk:k < 2 ^ n) :
 (covL tb (bitsN k n) && (!foundB tb n k || (decide ((bitsN k n).length < (bitsN (lbest tb n k) n).length) || (decide ((bitsN k n).length = (bitsN (lbest tb n k) n).length) && firstL (bitsN k n) (bitsN (lbest tb n k) n))))) = true →
 bitsN (lbest tb n (k + 1)) n = bitsN k n:=by
 rw [← befN_eq hk (lbest_lt tb n k (by omega)) hn]
 intro h
 simp only [Bool.and_eq_true,Bool.or_eq_true,Bool.not_eq_true'] at h
 obtain ⟨h1,h2⟩:=h
 simp only [lbest,h1,Bool.true_and]
 rcases h2 with h2|h2
 ·split
  ·rfl
  ·rename_i hb
   have e:=lbest_none h2
   -- the full selection is the first one found
   rw [e] at hb ⊢
   have hb:befN k (2 ^ n - 1) = false:=by simpa using hb
   have hle:=befN_not hb
   have hfl:2 ^ n - 1 < 2 ^ n:=by have:=Nat.two_pow_pos n;omega
   rw [popN_eq hfl hn,popN_eq hk hn] at hle
   have hful:bitsN (2 ^ n - 1) n = List.range n:=by
    unfold bitsN
    exact List.filter_eq_self.2 fun t ht=>by rw [bits_full (List.mem_range.1 ht)];rfl
   rw [hful,List.length_range] at hle
   rw [hful]
   unfold bitsN at hle ⊢
   have hl:=List.length_filter_le (fun t=>decide (k / 2 ^ t % 2 = 1)) (List.range n)
   rw [List.length_range] at hl
   exact ((List.filter_sublist).eq_of_length (by rw [List.length_range];omega)).symm
 ·rw [h2];rfl
theorem law_stay {tb:List (List Nat)} {n k:Nat} (hn:n ≤ 8) (hk:k < 2 ^ n) (hf:foundB tb n k = true) :
 (covL tb (bitsN k n) && (!foundB tb n k || (decide ((bitsN k n).length < (bitsN (lbest tb n k) n).length) || (decide ((bitsN k n).length = (bitsN (lbest tb n k) n).length) && firstL (bitsN k n) (bitsN (lbest tb n k) n))))) = false →
 lbest tb n (k + 1) = lbest tb n k:=by
 rw [← befN_eq hk (lbest_lt tb n k (by omega)) hn,hf,Bool.not_true,Bool.false_or]
 intro h
 simp only [lbest,h,Bool.false_eq_true,if_false]
theorem found_end {tb:List (List Nat)} {n:Nat} (htb:∀ r ∈ tb,∀ t ∈ r,t < n):foundB tb n (2 ^ n) = true:=by
 unfold foundB
 rw [List.any_eq_true]
 exact ⟨2 ^ n - 1,List.mem_range.2 (by have:=Nat.two_pow_pos n;omega),cov_full htb⟩
end Go.Pc
/- PcLs2: masks; selections that cover; tests that stand alone. Plain. -/
namespace Go.Pc
def maskN (l:List Nat):Nat:=l.foldl (fun m t=>m ||| 2 ^ t) 0
theorem maskF_bit:∀ (l:List Nat) (m t:Nat),(l.foldl (fun m t=>m ||| 2 ^ t) m).testBit t = (m.testBit t || decide (t ∈ l))
 | [],m,t=>by simp
 | x :: l,m,t=>by
  rw [List.foldl_cons,maskF_bit l,Nat.testBit_or,Nat.testBit_two_pow]
  by_cases h:x = t
  ·subst h;simp
  ·have h':¬ t = x:=fun e=>h e.symm
   simp [h,h']
theorem maskN_bit (l:List Nat) (t:Nat):(maskN l).testBit t = decide (t ∈ l):=by unfold maskN;rw [maskF_bit];simp
theorem maskN_lt {l:List Nat} {n:Nat} (h:∀ t ∈ l,t < n):maskN l < 2 ^ n:=by
 refine Nat.lt_pow_two_of_testBit _ fun i hi=>?_
 rw [maskN_bit]
 simp only [decide_eq_false_iff_not]
 intro hm;have:=h i hm;omega
theorem maskN_snoc (l:List Nat) (t:Nat):maskN (l ++ [t]) = maskN l ||| 2 ^ t:=by unfold maskN;rw [List.foldl_append];rfl
theorem maskN_zero (l:List Nat):maskN l = 0 ↔ l = []:=by
 constructor
 ·intro h
  cases l with
  | nil=>rfl
  | cons x l=>
   have:=maskN_bit (x :: l) x
   rw [h] at this
   simp at this
 ·rintro rfl;rfl
theorem bitsN_mask {l:List Nat} {n:Nat} {t:Nat}:t ∈ bitsN (maskN l) n ↔ t < n ∧ t ∈ l:=by
 rw [bitsN_mem,← decide_eq_true_iff (p:=maskN l / 2 ^ t % 2 = 1),bit_test,maskN_bit,decide_eq_true_iff]
def mkM (tb:List (List Nat)):Nat → List Nat
 | 0=>[]
 | i + 1=>if decide (0 < maskN (rowAt' tb i)) && !(mkM tb i).contains (maskN (rowAt' tb i)) then mkM tb i ++ [maskN (rowAt' tb i)] else mkM tb i
theorem mkM_mem (tb:List (List Nat)) (m:Nat):∀ i,m ∈ mkM tb i ↔ ∃ j,j < i ∧ 0 < m ∧ m = maskN (rowAt' tb j)
 | 0=>by simp [mkM]
 | i + 1=>by
  simp only [mkM]
  have ih:=mkM_mem tb m i
  by_cases h:(decide (0 < maskN (rowAt' tb i)) && !(mkM tb i).contains (maskN (rowAt' tb i))) = true
  ·rw [if_pos h,List.mem_append,ih,List.mem_singleton]
   simp only [Bool.and_eq_true,decide_eq_true_eq] at h
   constructor
   ·rintro (⟨j,h1,h2⟩|rfl)
    ·exact ⟨j,by omega,h2⟩
    ·exact ⟨i,by omega,h.1,rfl⟩
   ·rintro ⟨j,h1,h2,h3⟩
    rcases Nat.lt_succ_iff_lt_or_eq.1 h1 with h1|rfl
    ·exact .inl ⟨j,h1,h2,h3⟩
    ·exact .inr h3
  ·rw [if_neg h,ih]
   constructor
   ·rintro ⟨j,h1,h2⟩;exact ⟨j,by omega,h2⟩
   ·rintro ⟨j,h1,h2,h3⟩
    rcases Nat.lt_succ_iff_lt_or_eq.1 h1 with h1|rfl
    ·exact ⟨j,h1,h2,h3⟩
    ·have hc:(mkM tb j).contains (maskN (rowAt' tb j)) = true:=by
      simp only [Bool.and_eq_true,decide_eq_true_eq,not_and,Bool.not_eq_true',Bool.not_eq_false] at h
      exact h (by rw [← h3];exact h2)
     rw [List.contains_iff_mem,← h3] at hc
     exact ih.1 hc
theorem mkM_len (tb:List (List Nat)):∀ i,(mkM tb i).length ≤ i
 | 0=>by simp [mkM]
 | i + 1=>by
  simp only [mkM]
  have:=mkM_len tb i
  split
  ·simp;omega
  ·omega
theorem row_get {tb:List (List Nat)} {i:Nat} (h:i < tb.length):rowAt' tb i = tb[i]:=by unfold rowAt';rw [List.getD_eq_getElem?_getD,List.getElem?_eq_getElem h];rfl
theorem and_meets {r:List Nat} {x n:Nat} (hr:∀ t ∈ r,t < n):(maskN r &&& x = 0) ↔ meetsL r (bitsN x n) = false:=by
 rw [← Bool.not_eq_true,meets_iff]
 constructor
 ·rintro h ⟨t,h1,h2⟩
  have:(maskN r &&& x).testBit t = true:=by
   rw [Nat.testBit_and,maskN_bit,decide_eq_true h1,← bit_test,decide_eq_true (bitsN_mem.1 h2).2];rfl
  rw [h] at this;simp at this
 ·intro h
  refine Nat.eq_of_testBit_eq fun t=>?_
  rw [Nat.testBit_and,maskN_bit,Nat.zero_testBit]
  by_cases ht:t ∈ r
  ·rw [decide_eq_true ht,Bool.true_and,← bit_test,decide_eq_false_iff_not]
   exact fun hb=>h ⟨t,ht,bitsN_mem.2 ⟨hr t ht,hb⟩⟩
  ·rw [decide_eq_false ht,Bool.false_and]
theorem cvM_eq {tb:List (List Nat)} {n x:Nat} (htb:∀ r ∈ tb,∀ t ∈ r,t < n):(!(mkM tb tb.length).any fun m=>decide (m &&& x = 0)) = covL tb (bitsN x n):=by
 rw [Bool.eq_iff_iff]
 unfold covL
 rw [Bool.not_eq_true',List.any_eq_false,List.all_eq_true]
 constructor
 ·intro h r hr
  unfold unc
  cases r with
  | nil=>rfl
  | cons y r=>
   simp only [List.isEmpty_cons,Bool.not_false,Bool.true_and,Bool.not_not]
   obtain ⟨i,hi,he⟩:=List.getElem_of_mem hr
   have hm:maskN (y :: r) ∈ mkM tb tb.length:=(mkM_mem tb (maskN (y :: r)) tb.length).2 ⟨i,hi,Nat.pos_of_ne_zero (fun e=>absurd ((maskN_zero _).1 e) (by simp)),by rw [row_get hi,he]⟩
   have:=h _ hm
   simp only [decide_eq_true_eq] at this
   have h3:=fun hb=>this ((and_meets (fun t ht=>htb _ hr t ht)).2 hb)
   simpa using h3
 ·intro h m hm
  obtain ⟨j,hj,hp,rfl⟩:=(mkM_mem _ _ _).1 hm
  rw [row_get hj] at hp ⊢
  have hr:=List.getElem_mem hj
  have:=h _ hr
  simp only [decide_eq_true_eq]
  intro h0
  have h1:=(and_meets (n:=n) (htb _ hr)).1 h0
  unfold unc at this
  rw [h1] at this
  have hne:tb[j].isEmpty = false:=by
   cases hh:tb[j] with
   | nil=>rw [hh] at hp;simp [maskN] at hp
   | cons=>rfl
  rw [hne] at this;simp at this
theorem nodup_len {a b:List Nat}:a.Nodup → (∀ x ∈ a,x ∈ b) → a.length ≤ b.length:=by
 induction a generalizing b with
 | nil=>intro _ _;simp
 | cons x a ih=>
  intro h1 h2
  have h1:=List.nodup_cons.1 h1
  have hx:=h2 x (by simp)
  have:=ih (b:=b.erase x) h1.2 (fun y hy=>(List.mem_erase_of_ne (fun e=>h1.1 (by rw [← e];exact hy))).2 (h2 y (by simp [hy])))
  rw [List.length_erase_of_mem hx] at this
  have:=List.length_pos_of_mem hx
  simp only [List.length_cons];omega
theorem least_len {tb:List (List Nat)} {n:Nat} (htb:∀ r ∈ tb,∀ t ∈ r,t < n) (hn:n ≤ 8) {l:List Nat} (hl:∀ t ∈ l,t < n) (hc:covL tb l = true):(bitsN (lbest tb n (2 ^ n)) n).length ≤ l.length:=by
 have hx:maskN l < 2 ^ n:=maskN_lt hl
 have hc2:covL tb (bitsN (maskN l) n) = true:=cov_mono (fun r hr t ht h=>bitsN_mask.2 ⟨htb r hr t ht,h⟩) hc
 have h1:=lbest_pop (2 ^ n) (maskN l) hx hc2
 rw [popN_eq (lbest_lt tb n _ (Nat.le_refl _)) hn,popN_eq hx hn] at h1
 exact Nat.le_trans h1 (nodup_len (bitsN_nodup _ _) fun t ht=>(bitsN_mask.1 ht).2)
theorem meets_sub {r a b:List Nat} (h:∀ x ∈ a,x ∈ b) (hm:meetsL r a = true):meetsL r b = true:=by
 rw [meets_iff] at hm ⊢
 obtain ⟨x,h1,h2⟩:=hm
 exact ⟨x,h1,h x h2⟩
theorem later_cov {tb:List (List Nat)} {n:Nat} (htb:∀ r ∈ tb,∀ t ∈ r,t < n):∀ (t:Nat) (acc:List Nat),(∀ r ∈ tb,(∃ x ∈ r,t ≤ x) → meetsL r acc = true) → covL tb (later tb t acc) = true
 | 0,acc,h=>by
  simp only [later]
  unfold covL
  rw [List.all_eq_true]
  intro r hr
  unfold unc
  cases r with
  | nil=>rfl
  | cons x r=>rw [h _ hr ⟨x,by simp,by omega⟩];rfl
 | t + 1,acc,h=>by
  simp only [later]
  refine later_cov htb t _ ?_
  rintro r hr ⟨x,hx,hxt⟩
  by_cases hg:0 < gcnt tb acc t
  ·rw [if_pos hg]
   rcases Nat.lt_or_ge x (t + 1) with h1|h1
   ·obtain rfl:x = t:=by omega
    rw [meets_iff];exact ⟨x,hx,by simp⟩
   ·exact meets_sub (fun y hy=>List.mem_cons_of_mem _ hy) (h r hr ⟨x,hx,h1⟩)
  ·rw [if_neg hg]
   rcases Nat.lt_or_ge x (t + 1) with h1|h1
   ·obtain rfl:x = t:=by omega
    rw [gcnt_pos,List.any_eq_true] at hg
    refine Classical.byContradiction fun hm=>hg ⟨r,hr,?_⟩
    have hm:meetsL r acc = false:=by simpa using hm
    rw [hm,List.contains_iff_mem.2 hx];rfl
   ·exact h r hr ⟨x,hx,h1⟩
theorem later_covers {tb:List (List Nat)} {n:Nat} (htb:∀ r ∈ tb,∀ t ∈ r,t < n):covL tb (later tb n []) = true:=
 later_cov htb n [] fun r hr ⟨x,hx,h⟩=>by have:=htb r hr x hx;omega
def aloneL (tb:List (List Nat)) (n:Nat):List Nat:=(List.range n).filter fun t=>tb.contains [t]
def singles (tb:List (List Nat)):List Nat:=(tb.filter fun r=>r.length == 1).map fun r=>r.headD 0
theorem single_mem {tb:List (List Nat)} {t:Nat}:t ∈ singles tb ↔ [t] ∈ tb:=by
 unfold singles
 simp only [List.mem_map,List.mem_filter,beq_iff_eq]
 constructor
 ·rintro ⟨r,⟨h1,h2⟩,rfl⟩
  obtain ⟨x,rfl⟩:=List.length_eq_one_iff.1 h2
  exact h1
 ·intro h;exact ⟨[t],⟨h,rfl⟩,rfl⟩
theorem alone_in {tb:List (List Nat)} {n t:Nat} (h:t ∈ aloneL tb n) {l:List Nat} (hc:covL tb l = true):l.contains t = true:=by
 unfold aloneL at h
 rw [List.mem_filter,List.contains_iff_mem] at h
 unfold covL at hc
 have:=List.all_eq_true.1 hc _ h.2
 unfold unc at this
 simp only [List.isEmpty_cons,Bool.not_false,Bool.true_and,Bool.not_not] at this
 obtain ⟨x,h1,h2⟩:=meets_iff.1 this
 rw [List.mem_singleton] at h1
 subst h1
 rw [List.contains_iff_mem];exact h2
theorem lt_eq:∀ (a b:List Int),a.Pairwise (·< ·) → b.Pairwise (·< ·) → (∀ x,x ∈ a ↔ x ∈ b) → a = b
 | [],[],_,_,_=>rfl
 | [],y :: b,_,_,h=>by have:=(h y).2 (by simp);cases this
 | x :: a,[],_,_,h=>by have:=(h x).1 (by simp);cases this
 | x :: a,y :: b,ha,hb,h=>by
  have ha:=List.pairwise_cons.1 ha
  have hb:=List.pairwise_cons.1 hb
  have e:x = y:=by
   have h1:=(h x).1 (by simp)
   have h2:=(h y).2 (by simp)
   rcases List.mem_cons.1 h1 with h1|h1
   ·exact h1
   ·rcases List.mem_cons.1 h2 with h2|h2
    ·exact h2.symm
    ·have:=hb.1 x h1;have:=ha.1 y h2;omega
  subst e
  rw [lt_eq a b ha.2 hb.2 fun z=>?_]
  have hz:=h z
  simp only [List.mem_cons] at hz
  constructor
  ·intro hm
   rcases hz.1 (.inr hm) with rfl|h1
   ·have:=ha.1 z hm;omega
   ·exact h1
  ·intro hm
   rcases hz.2 (.inr hm) with rfl|h1
   ·have:=hb.1 z hm;omega
   ·exact h1
theorem alone_dd {tb:List (List Nat)} {n:Nat} (htb:∀ r ∈ tb,∀ t ∈ r,t < n) :
 dd (((singles tb).map fun (x:Nat)=>(x:Int)).mergeSort fun x y=>decide (x ≤ y)) = (aloneL tb n).map fun (x:Nat)=>(x:Int):=by
 refine lt_eq _ _ (dd_lt _ ?_) ?_ ?_
 ·have:=List.pairwise_mergeSort (le:=fun (x y:Int)=>decide (x ≤ y)) (by intro a b c;simp;omega) (by intro a b;simp;omega) ((singles tb).map fun (x:Nat)=>(x:Int))
  exact this.imp (by intro a b h;simpa using h)
 ·rw [List.pairwise_map]
  unfold aloneL
  exact (List.pairwise_lt_range.filter _).imp (by intro a b h;omega)
 ·intro z
  rw [dd_mem,List.mem_mergeSort,List.mem_map,List.mem_map]
  unfold aloneL
  constructor
  ·rintro ⟨t,h1,rfl⟩
   have:=single_mem.1 h1
   exact ⟨t,List.mem_filter.2 ⟨List.mem_range.2 (htb _ this t (by simp)),List.contains_iff_mem.2 this⟩,rfl⟩
  ·rintro ⟨t,h1,rfl⟩
   exact ⟨t,single_mem.2 (List.contains_iff_mem.1 (List.mem_filter.1 h1).2),rfl⟩
end Go.Pc
