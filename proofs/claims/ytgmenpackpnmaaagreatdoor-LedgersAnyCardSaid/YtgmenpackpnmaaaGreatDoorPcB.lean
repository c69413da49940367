/- PcSrt: an array of numbers as rows. -/
import Derived.Test.YtgmenpackpnmaaaGreatDoorAxE
import Derived.Sort.AssemblyPlain
set_option linter.unusedSimpArgs false
set_option linter.unusedVariables false
namespace Go.Pc
open Go.Ax Go.Sort
def rwA (d:Array Int):List (List AV):=d.toList.map fun x=>[AV.int .i64 x]
theorem a0n (d:Array Int):(rwA d).length = d.size:=by simp [rwA]
theorem a08 {d:Array Int} {rest:List (List AV)} {i:Nat} (h:i < d.size):(rwA d ++ rest)[i]? = some [AV.int .i64 d[i]!]:=by
 rw [List.getElem?_append_left (by rw [a0n];exact h)]
 unfold rwA
 rw [List.getElem?_map,Array.getElem?_toList,Array.getElem?_eq_getElem h,getElem!_pos d i h];rfl
theorem b12 {d:Array Int} {rest:List (List AV)} {i:Nat} {x:Int} (h:i < d.size):(rwA d ++ rest).set i [AV.int .i64 x] = rwA (d.setIfInBounds i x) ++ rest:=by
 rw [List.set_append_left _ _ (by rw [a0n];exact h)]
 unfold rwA
 rw [Array.toList_setIfInBounds,List.map_set]
theorem swp_size (d:Array Int) (i j:Nat):(swp d i j).size = d.size:=by simp [swp]
theorem a12 {d:Array Int} {rest:List (List AV)} {i j:Nat} (hi:i < d.size) (hj:j < d.size):((rwA d ++ rest).set i [AV.int .i64 d[j]!]).set j [AV.int .i64 d[i]!] = rwA (swp d i j) ++ rest:=by
 rw [b12 hi,b12 (by simpa using hj)];rfl
theorem b5o (d:Array Int):FlatR (rwA d):=FlatR.map fun _=>rfl
theorem a03 {d:Array Int} {rest:List (List AV)} (h:FlatR rest):FlatR (rwA d ++ rest):=by
 intro r hr
 rcases List.mem_append.1 hr with h'|h'
 ·exact b5o d r h'
 ·exact h r h'
theorem a8c (a j:Nat) (d:Array Int):insInner ltInt a (j + 1) d = if j + 1 > a && ltInt d[j + 1]! d[j]! then insInner ltInt a j (swp d (j + 1) j) else d:=by rfl
theorem a8b (a b i:Nat) (d:Array Int):insOuter ltInt a b i d = if i < b then insOuter ltInt a b (i + 1) (insInner ltInt a i d) else d:=by conv=>lhs;unfold insOuter
theorem a0q {d:Array Int} {rest:List (List AV)} {i j:Nat} {x:Int} (hi:i < d.size) (hj:j < d.size):∃ y,((rwA d ++ rest).set i [AV.int .i64 x])[j]? = some [AV.int .i64 y]:=by
 rw [b12 hi];exact ⟨_,a08 (by simpa using hj)⟩
theorem a5g (hi f r:Nat) (d:Array Int):siftDown ltInt hi f r d = if 2 * r + 1 ≥ hi then d else
 if 2 * r + 1 + 1 < hi && ltInt d[f + (2 * r + 1)]! d[f + (2 * r + 1) + 1]! then
  (if !ltInt d[f + r]! d[f + (2 * r + 2)]! then d else if 2 * r + 2 < hi then siftDown ltInt hi f (2 * r + 2) (swp d (f + r) (f + (2 * r + 2))) else d)
 else (if !ltInt d[f + r]! d[f + (2 * r + 1)]! then d else siftDown ltInt hi f (2 * r + 1) (swp d (f + r) (f + (2 * r + 1)))):=by
 conv=>lhs;unfold siftDown
 simp only [dite_eq_ite]
theorem a49 (p:Int → Bool) (d:Array Int) (j i:Nat):scanUp p d j i = if i ≤ j && p d[i]! then scanUp p d j (i + 1) else i:=by conv=>lhs;unfold scanUp
theorem a2g (p:Int → Bool) (d:Array Int) (i j:Nat):scanDown p d i (j + 1) = if i ≤ j + 1 && p d[j + 1]! then scanDown p d i j else j + 1:=rfl
theorem b2q (a i j:Nat) (d:Array Int):partLoop ltInt a i j d = if scanUp (fun x=>ltInt x d[a]!) d j i > scanDown (fun x=>!ltInt x d[a]!) d (scanUp (fun x=>ltInt x d[a]!) d j i) j then (scanDown (fun x=>!ltInt x d[a]!) d (scanUp (fun x=>ltInt x d[a]!) d j i) j,d) else
 if scanDown (fun x=>!ltInt x d[a]!) d (scanUp (fun x=>ltInt x d[a]!) d j i) j - 1 + 1 - (scanUp (fun x=>ltInt x d[a]!) d j i + 1) < j + 1 - i then partLoop ltInt a (scanUp (fun x=>ltInt x d[a]!) d j i + 1) (scanDown (fun x=>!ltInt x d[a]!) d (scanUp (fun x=>ltInt x d[a]!) d j i) j - 1) (swp d (scanUp (fun x=>ltInt x d[a]!) d j i) (scanDown (fun x=>!ltInt x d[a]!) d (scanUp (fun x=>ltInt x d[a]!) d j i) j)) else (scanDown (fun x=>!ltInt x d[a]!) d (scanUp (fun x=>ltInt x d[a]!) d j i) j,d):=by
 conv=>lhs;unfold partLoop
 simp only [dite_eq_ite]
end Go.Pc
/- PcSrt2: pdqsort's round, in steps. -/
namespace Go.Pc
open Go.Ax Go.Sort
def c3q (d3:Array Int) (a b limit:Nat) (wb wp:Bool) (pivot:Nat):Array Int:=
 if a > 0 && !ltInt d3[a - 1]! d3[pivot]! then
  match partitionEqual ltInt d3 a b pivot with
  | (mid,d4)=>if a < mid ∧ mid ≤ b then pdq ltInt d4 mid b limit wb wp else d4
 else
  match partition ltInt d3 a b pivot with
  | (mid,ap,d4)=>
   if a ≤ mid ∧ mid < b then
    if mid - a < b - mid then pdq ltInt (pdq ltInt d4 a mid limit true true) (mid + 1) b limit (decide (mid - a ≥ (b - a) / 8)) ap
    else pdq ltInt (pdq ltInt d4 (mid + 1) b limit true true) a mid limit (decide (b - mid ≥ (b - a) / 8)) ap
   else d4
def c1s (d2:Array Int) (a b limit:Nat) (wb wp:Bool) (pivot:Nat) (hint:Hint):Array Int:=
 let pi:=if wb && wp && hint = .increasing then partialInsertionSort ltInt d2 a b else (d2,false)
 if pi.2 then pi.1 else c3q pi.1 a b limit wb wp pivot
def c3r (d1:Array Int) (a b limit:Nat) (wb wp:Bool):Array Int:=
 let c:=choosePivot ltInt d1 a b
 if c.2 = .decreasing then c1s (reverseRange d1 a b) a b limit wb wp ((b - 1) - (c.1 - a)) .increasing
 else c1s d1 a b limit wb wp c.1 c.2
theorem c57 (d:Array Int) (a b limit:Nat) (wb wp:Bool):pdq ltInt d a b limit wb wp = if b - a ≤ 12 then insertionSort ltInt d a b else if limit = 0 then heapSort ltInt d a b else
 c3r (if !wb then breakPatterns d a b else d) a b (if !wb then limit - 1 else limit) wb wp:=by
 conv=>lhs;unfold pdq
 unfold c3r c1s c3q
 simp only [dite_eq_ite]
 by_cases h1:b - a ≤ 12
 ·rw [if_pos h1,if_pos h1]
 ·rw [if_neg h1,if_neg h1]
  by_cases h2:limit = 0
  ·rw [if_pos h2,if_pos h2]
  ·rw [if_neg h2,if_neg h2]
   by_cases h3:(choosePivot ltInt (if (!wb) = true then breakPatterns d a b else d) a b).2 = Hint.decreasing
   ·simp only [h3,if_true]
   ·simp only [h3,if_false]
end Go.Pc
/- PcCir: circuits as b5r data: nodes, how they are laid in cells; the small circuits of the statements. Plain definitions. -/
namespace Go.Pc
open Go.Ax
abbrev Rep:=Option (Option Nat)
structure Nd where
 kind:Nat
 c:Rep
 ins:List Nat
 mem:Nat
 bit:Nat
attribute [go_sem] List.length_map List.getElem?_map
end Go.Pc
/- PcWord: words of 64 values as b5r data. Plain definitions. -/
namespace Go.Pc
open Go.Ax
structure W where
 one:BitVec 64
 zero:BitVec 64
def W.enc (w:W):List AV:=[u64 w.one,u64 w.zero]
attribute [go_sem] W.enc
def b4j (v:Nat):Nat:=if 3 < v then 2 else v
def c14 (w:W):W:=⟨w.one &&& ~~~(w.one &&& w.zero),w.zero &&& ~~~(w.one &&& w.zero)⟩
def c22 (k:Nat):Bool:=decide (1 ≤ k) && decide (k ≤ 13)
end Go.Pc
/- PcSim: one cycle of a circuit, over words or over single values; lanes of words are single values. Plain definitions. -/
namespace Go.Pc
open Go.Ax
structure Alg (α:Type) where
 ev:Nat → List α → α
 z:α
 fill:Nat → α
structure Hk (α:Type) where
 net:Nat → α → α
 pin:Nat → Nat → α → α
section
variable {α:Type} (A:Alg α) (nodes:List Nd) (h:Hk α)
def c20 (nodes:List Nd) (n:Nat):Nat:=(nodes[n]?.map Nd.kind).getD 0
def c5i (nodes:List Nd) (n:Nat):List Nat:=(nodes[n]?.map Nd.ins).getD []
def hk0:Hk α:=⟨fun _ w=>w,fun _ _ w=>w⟩
end
structure Hom {α β:Type} (A:Alg α) (B:Alg β) (φ:α → β):Prop where
 ev:∀ k l,φ (A.ev k l) = B.ev k (l.map φ)
 z:φ A.z = B.z
 fill:∀ v,φ (A.fill v) = B.fill v
structure HkHom {α β:Type} (φ:α → β) (h:Hk α) (k:Hk β):Prop where
 net:∀ n w,φ (h.net n w) = k.net n (φ w)
 pin:∀ n p w,φ (h.pin n p w) = k.pin n p (φ w)
section
variable {α β:Type} {A:Alg α} {B:Alg β} {φ:α → β} (hφ:Hom A B φ) {nodes:List Nd} {h:Hk α} {k:Hk β} (hk:HkHom φ h k)
include hφ
include hk
end
/-! ### single values -/
section
variable {j:Nat} (hj:j < 64)
include hj
end
/-! ### contradictions -/
/-! ### a circuit -/
structure Sim where
 nodes:List Nd
 ord:List Nat
 ins:List Nat
 sts:List Nat
 outs:List Nat
section
variable {α:Type} (A:Alg α) (S:Sim)
end
end Go.Pc
/- PcWf: the circuits of the statements are valid. Plain. -/
namespace Go.Pc
open Go.Ax
end Go.Pc
/- PcFan: which pins read a net. Plain. -/
namespace Go.Pc
open Go.Ax
def cnt (L:List (Nat × Nat)) (a:Nat):Nat:=(L.map (·.1)).count a
end Go.Pc
/- PcKahn: the order in which nodes become ready. Plain. -/
namespace Go.Pc
open Go.Ax
def b2r (nodes:List Nd) (a:Nat):Nat:=if c22 (c20 nodes a) then (c5i nodes a).length else 0
section
variable {nodes:List Nd} {left ready:List Nat} {done:Nat} {L:List (Nat × Nat)}
end
end Go.Pc
/- PcPerm: exchanging neighbours. Plain. -/
namespace Go.Pc
end Go.Pc
/- PcReach: which nets a net depends on; faults that are valid. Plain. -/
namespace Go.Pc
open Go.Ax
end Go.Pc
/- PcRun: the simulation, step by step. Plain. -/
namespace Go.Pc
open Go.Ax
section
variable {α:Type} {A:Alg α} {nodes:List Nd} {h:Hk α}
end
end Go.Pc
/- PcLev: levels of nodes; orders in which a1r node stands behind what it b5q. Plain. -/
namespace Go.Pc
open Go.Ax
section
variable {nodes:List Nd} {lv left ready:List Nat} {done:Nat} {L:List (Nat × Nat)}
end
/-! ### insertion -/
end Go.Pc
/- PcLed: what a ledger counts, test by test. Plain. -/
namespace Go.Pc
end Go.Pc
/- PcPack: words that are put together lane by lane. Plain. -/
namespace Go.Pc
open Go.Ax
end Go.Pc
/- PcEach: many faults, one lane each. Plain. -/
namespace Go.Pc
open Go.Ax
variable {j:Nat}
end Go.Pc
/- PcCmp: neighbours that are equal are struck. -/
namespace Go.Pc
def ddF:Int → List Int → List Int
 | _,[]=>[]
 | p,x :: l=>if x = p then ddF p l else x :: ddF x l
def dd:List Int → List Int
 | []=>[]
 | x :: l=>x :: ddF x l
theorem a9c:∀ (l:List Int) (p y x:Int),ddF p (l ++ [y,x]) = ddF p (l ++ [y]) ++ if x = y then [] else [x]
 | [],p,y,x=>by
  simp only [List.nil_append,ddF]
  by_cases h:y = p
  ·subst h;simp
  ·simp [h]
 | z :: l,p,y,x=>by
  simp only [List.cons_append,ddF]
  split
  ·exact a9c l p y x
  ·rw [a9c l z y x];rfl
theorem b9b (l:List Int) (y x:Int):dd (l ++ [y,x]) = dd (l ++ [y]) ++ if x = y then [] else [x]:=by
 cases l with
 | nil=>simp only [List.nil_append,dd,ddF];by_cases h:x = y<;>simp [h]
 | cons z l=>simp only [List.cons_append,dd];rw [a9c]
theorem a3y {S:List Int} {j:Nat} {x:Int} (h:S[j]? = some x):S.take (j + 1) = S.take j ++ [x]:=by rw [List.take_add_one,h];rfl
theorem b4e {S:List Int} {j:Nat} {x y:Int} (hy:S[j]? = some y) (hx:S[j + 1]? = some x):dd (S.take (j + 2)) = dd (S.take (j + 1)) ++ if x = y then [] else [x]:=by
 rw [a3y hx,a3y hy,List.append_assoc];exact b9b _ _ _
theorem b1d:∀ (l:List Int) (p z:Int),(z = p ∨ z ∈ ddF p l) ↔ (z = p ∨ z ∈ l)
 | [],p,z=>by simp [ddF]
 | x :: l,p,z=>by
  simp only [ddF]
  by_cases h:x = p
  ·subst h
   rw [if_pos rfl,b1d l x z];simp [or_assoc]
  ·rw [if_neg h]
   simp only [List.mem_cons]
   rw [b1d l x z]
theorem c2i (l:List Int) (z:Int):z ∈ dd l ↔ z ∈ l:=by
 cases l with
 | nil=>rfl
 | cons x l=>simp only [dd,List.mem_cons];exact b1d l x z
theorem b4f:∀ (l:List Int) (p:Int),(p :: l).Pairwise (·≤ ·) → (p :: ddF p l).Pairwise (·< ·)
 | [],p,_=>by simp [ddF]
 | x :: l,p,h=>by
  simp only [List.pairwise_cons,List.mem_cons] at h
  obtain ⟨h1,h2,h3⟩:=h
  simp only [ddF]
  by_cases hx:x = p
  ·subst hx
   rw [if_pos rfl]
   exact b4f l x (List.pairwise_cons.2 ⟨h2,h3⟩)
  ·rw [if_neg hx]
   have ih:=b4f l x (List.pairwise_cons.2 ⟨h2,h3⟩)
   have hpx:=h1 x (.inl rfl)
   refine List.pairwise_cons.2 ⟨fun z hz=>?_,ih⟩
   rcases List.mem_cons.1 hz with rfl|hz
   ·omega
   ·have:=(List.pairwise_cons.1 ih).1 z hz;omega
theorem c2j (l:List Int) (h:l.Pairwise (·≤ ·)):(dd l).Pairwise (·< ·):=by
 cases l with
 | nil=>exact List.Pairwise.nil
 | cons x l=>exact b4f l x h
end Go.Pc
/- PcCrv: a row of counts, and what it sums up to. -/
namespace Go.Pc
open Go.Ax
def a2n (f:Nat → Int) (T:Nat):List (List AV):=(List.range T).map fun j=>[AV.int .i64 (f j)]
theorem a2w (f:Nat → Int) (T:Nat):(a2n f T).length = T:=by simp [a2n]
theorem a2x {f:Nat → Int} {T j:Nat} (h:j < T):(a2n f T)[j]? = some [AV.int .i64 (f j)]:=by
 unfold a2n;rw [List.getElem?_map,List.getElem?_range h];rfl
theorem a8x {f:Nat → Int} {T i:Nat} {x:Int}:(a2n f T).set i [AV.int .i64 x] = a2n (fun j=>if j = i then x else f j) T:=by
 apply List.ext_getElem?
 intro j
 by_cases hj:j < T
 ·rw [a2x hj]
  by_cases h:j = i
  ·subst h;rw [List.getElem?_set_self (by rw [a2w];exact hj),if_pos rfl]
  ·rw [List.getElem?_set_ne (Ne.symm h),a2x hj,if_neg h]
 ·rw [List.getElem?_eq_none (by rw [List.length_set,a2w];omega),List.getElem?_eq_none (by rw [a2w];omega)]
theorem a39 (f:Nat → Int) (T:Nat):FlatR (a2n f T):=FlatR.map fun _=>rfl
theorem a4b {f g:Nat → Int} {T:Nat} (h:∀ j,j < T → f j = g j):a2n f T = a2n g T:=by
 unfold a2n
 refine List.map_congr_left fun j hj=>?_
 rw [h j (List.mem_range.1 hj)]
theorem a9w (T:Nat):List.replicate T [AV.int .i64 0] = a2n (fun _=>0) T:=by
 unfold a2n
 rw [List.map_const',List.length_range]
def eqN (S:List Int) (j:Nat):Int:=(S.countP fun x=>decide (x = (j:Int)):Nat)
def leN (S:List Int) (j:Nat):Int:=(S.countP fun x=>decide (x ≤ (j:Int)):Nat)
theorem b64 (S:List Int) (i j:Nat):eqN (S ++ [(i:Int)]) j = if j = i then eqN S i + 1 else eqN S j:=by
 unfold eqN
 rw [List.countP_append]
 by_cases h:j = i
 ·subst h;rw [if_pos rfl];simp
 ·rw [if_neg h,List.countP_cons_of_neg (by simp;omega)];simp
theorem b4d (S:List Int) (j:Nat):0 ≤ eqN S j ∧ eqN S j ≤ S.length:=by
 unfold eqN
 have:=List.countP_le_length (p:=fun x=>decide (x = (j:Int))) (l:=S)
 omega
theorem b40 (S:List Int) (j:Nat):0 ≤ leN S j ∧ leN S j ≤ S.length:=by
 unfold leN
 have:=List.countP_le_length (p:=fun x=>decide (x ≤ (j:Int))) (l:=S)
 omega
theorem b5v (S:List Int) (j:Nat):leN S (j + 1) = eqN S (j + 1) + leN S j:=by
 unfold leN eqN
 induction S with
 | nil=>rfl
 | cons x l ih=>
  simp only [List.countP_cons,decide_eq_true_eq]
  by_cases h1:x = ((j + 1:Nat):Int)
  ·subst h1
   rw [if_pos (by omega),if_pos rfl,if_neg (by omega)];omega
  ·by_cases h2:x ≤ (j:Int)
   ·rw [if_pos (by omega),if_neg h1,if_pos h2];omega
   ·rw [if_neg (by omega),if_neg h1,if_neg h2];omega
theorem b5u {S:List Int} (h:∀ x ∈ S,0 ≤ x):leN S 0 = eqN S 0:=by
 unfold leN eqN
 congr 1
 refine List.countP_congr fun x hx=>?_
 have:=h x hx
 simp only [decide_eq_true_eq];omega
end Go.Pc
/- PcAny: the elements of a list that are met, each once. -/
namespace Go.Pc
def a28 (t:Int):List Int → List Int → List Int
 | l,[]=>l
 | l,x :: F=>a28 t (if 0 ≤ x ∧ x < t ∧ x ∉ l then l ++ [x] else l) F
theorem a7z (t:Int) (x:Int):∀ (F l:List Int),a28 t l (F ++ [x]) = if 0 ≤ x ∧ x < t ∧ x ∉ a28 t l F then a28 t l F ++ [x] else a28 t l F
 | [],l=>rfl
 | y :: F,l=>by simp only [List.cons_append,a28];exact a7z t x F _
theorem a9r (t:Int) (z:Int):∀ (F l:List Int),z ∈ a28 t l F ↔ z ∈ l ∨ (z ∈ F ∧ 0 ≤ z ∧ z < t)
 | [],l=>by simp [a28]
 | y :: F,l=>by
  simp only [a28]
  rw [a9r t z F]
  split
  ·rename_i h
   simp only [List.mem_append,List.mem_cons,List.not_mem_nil,or_false]
   constructor
   ·rintro ((h1|rfl)|⟨h1,h2⟩)
    ·exact .inl h1
    ·exact .inr ⟨.inl rfl,h.1,h.2.1⟩
    ·exact .inr ⟨.inr h1,h2⟩
   ·rintro (h1|⟨rfl|h1,h2⟩)
    ·exact .inl (.inl h1)
    ·exact .inl (.inr rfl)
    ·exact .inr ⟨h1,h2⟩
  ·rename_i h
   simp only [List.mem_cons]
   constructor
   ·rintro (h1|⟨h1,h2⟩)
    ·exact .inl h1
    ·exact .inr ⟨.inr h1,h2⟩
   ·rintro (h1|⟨rfl|h1,h2⟩)
    ·exact .inl h1
    ·refine .inl (Decidable.byContradiction fun h3=>h ⟨h2.1,h2.2,h3⟩)
    ·exact .inr ⟨h1,h2⟩
theorem a6o (t:Int):∀ (F l:List Int),l.Nodup → (a28 t l F).Nodup
 | [],l,h=>h
 | y :: F,l,h=>by
  simp only [a28]
  refine a6o t F _ ?_
  split
  ·rename_i hc
   rw [List.nodup_append]
   refine ⟨h,by simp,?_⟩
   intro a ha b hb
   simp only [List.mem_singleton] at hb
   subst hb
   exact fun e=>hc.2.2 (e ▸ ha)
  ·exact h
theorem a9s (t:Int):∀ (F l:List Int),(a28 t l F).length ≤ l.length + F.length
 | [],l=>by simp [a28]
 | y :: F,l=>by
  simp only [a28]
  refine Nat.le_trans (a9s t F _) ?_
  split<;>simp<;>omega
end Go.Pc
