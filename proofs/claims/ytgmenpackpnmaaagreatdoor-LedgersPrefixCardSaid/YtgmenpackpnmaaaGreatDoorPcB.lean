/- PcSrt: an array of numbers as rows. -/
import Derived.Test.YtgmenpackpnmaaaGreatDoorAxE
import Derived.Sort.AssemblyPlain
set_option linter.unusedSimpArgs false
set_option linter.unusedVariables false
namespace Go.Pc
open Go.Ax Go.Sort
def rwA (d:Array Int):List (List AV):=d.toList.map fun x=>[AV.int .i64 x]
theorem a1i (d:Array Int):(rwA d).length = d.size:=by simp [rwA]
theorem a0f {d:Array Int} {rest:List (List AV)} {i:Nat} (h:i < d.size):(rwA d ++ rest)[i]? = some [AV.int .i64 d[i]!]:=by
 rw [List.getElem?_append_left (by rw [a1i];exact h)]
 unfold rwA
 rw [List.getElem?_map,Array.getElem?_toList,Array.getElem?_eq_getElem h,getElem!_pos d i h];rfl
theorem b9e {d:Array Int} {rest:List (List AV)} {i:Nat} {x:Int} (h:i < d.size):(rwA d ++ rest).set i [AV.int .i64 x] = rwA (d.setIfInBounds i x) ++ rest:=by
 rw [List.set_append_left _ _ (by rw [a1i];exact h)]
 unfold rwA
 rw [Array.toList_setIfInBounds,List.map_set]
theorem swp_size (d:Array Int) (i j:Nat):(swp d i j).size = d.size:=by simp [swp]
theorem a2a {d:Array Int} {rest:List (List AV)} {i j:Nat} (hi:i < d.size) (hj:j < d.size):((rwA d ++ rest).set i [AV.int .i64 d[j]!]).set j [AV.int .i64 d[i]!] = rwA (swp d i j) ++ rest:=by
 rw [b9e hi,b9e (by simpa using hj)];rfl
theorem c9q (d:Array Int):FlatR (rwA d):=FlatR.map fun _=>rfl
theorem a07 {d:Array Int} {rest:List (List AV)} (h:FlatR rest):FlatR (rwA d ++ rest):=by
 intro r hr
 rcases List.mem_append.1 hr with h'|h'
 ·exact c9q d r h'
 ·exact h r h'
theorem b4p (a j:Nat) (d:Array Int):insInner ltInt a (j + 1) d = if j + 1 > a && ltInt d[j + 1]! d[j]! then insInner ltInt a j (swp d (j + 1) j) else d:=by rfl
theorem b4o (a b i:Nat) (d:Array Int):insOuter ltInt a b i d = if i < b then insOuter ltInt a b (i + 1) (insInner ltInt a i d) else d:=by conv=>lhs;unfold insOuter
theorem a1q {d:Array Int} {rest:List (List AV)} {i j:Nat} {x:Int} (hi:i < d.size) (hj:j < d.size):∃ y,((rwA d ++ rest).set i [AV.int .i64 x])[j]? = some [AV.int .i64 y]:=by
 rw [b9e hi];exact ⟨_,a0f (by simpa using hj)⟩
theorem b08 (hi f r:Nat) (d:Array Int):siftDown ltInt hi f r d = if 2 * r + 1 ≥ hi then d else
 if 2 * r + 1 + 1 < hi && ltInt d[f + (2 * r + 1)]! d[f + (2 * r + 1) + 1]! then
  (if !ltInt d[f + r]! d[f + (2 * r + 2)]! then d else if 2 * r + 2 < hi then siftDown ltInt hi f (2 * r + 2) (swp d (f + r) (f + (2 * r + 2))) else d)
 else (if !ltInt d[f + r]! d[f + (2 * r + 1)]! then d else siftDown ltInt hi f (2 * r + 1) (swp d (f + r) (f + (2 * r + 1)))):=by
 conv=>lhs;unfold siftDown
 simp only [dite_eq_ite]
theorem a8c (p:Int → Bool) (d:Array Int) (j i:Nat):scanUp p d j i = if i ≤ j && p d[i]! then scanUp p d j (i + 1) else i:=by conv=>lhs;unfold scanUp
theorem a5a (p:Int → Bool) (d:Array Int) (i j:Nat):scanDown p d i (j + 1) = if i ≤ j + 1 && p d[j + 1]! then scanDown p d i j else j + 1:=rfl
theorem c2o (a i j:Nat) (d:Array Int):partLoop ltInt a i j d = if scanUp (fun x=>ltInt x d[a]!) d j i > scanDown (fun x=>!ltInt x d[a]!) d (scanUp (fun x=>ltInt x d[a]!) d j i) j then (scanDown (fun x=>!ltInt x d[a]!) d (scanUp (fun x=>ltInt x d[a]!) d j i) j,d) else
 if scanDown (fun x=>!ltInt x d[a]!) d (scanUp (fun x=>ltInt x d[a]!) d j i) j - 1 + 1 - (scanUp (fun x=>ltInt x d[a]!) d j i + 1) < j + 1 - i then partLoop ltInt a (scanUp (fun x=>ltInt x d[a]!) d j i + 1) (scanDown (fun x=>!ltInt x d[a]!) d (scanUp (fun x=>ltInt x d[a]!) d j i) j - 1) (swp d (scanUp (fun x=>ltInt x d[a]!) d j i) (scanDown (fun x=>!ltInt x d[a]!) d (scanUp (fun x=>ltInt x d[a]!) d j i) j)) else (scanDown (fun x=>!ltInt x d[a]!) d (scanUp (fun x=>ltInt x d[a]!) d j i) j,d):=by
 conv=>lhs;unfold partLoop
 simp only [dite_eq_ite]
end Go.Pc
/- PcSrt2: pdqsort's round, in steps. -/
namespace Go.Pc
open Go.Ax Go.Sort
def e30 (d3:Array Int) (a b limit:Nat) (wb wp:Bool) (pivot:Nat):Array Int:=
 if a > 0 && !ltInt d3[a - 1]! d3[pivot]! then
  match partitionEqual ltInt d3 a b pivot with
  | (mid,d4)=>if a < mid ∧ mid ≤ b then pdq ltInt d4 mid b limit wb wp else d4
 else
  match partition ltInt d3 a b pivot with
  | (mid,ap,d4)=>
   if a ≤ mid ∧ mid < b then
    if mid - a < b - mid then pdq ltInt (pdq ltInt d4 a mid limit true true) (mid + 1) b limit (decide (mid - a ≥ (b - a) / 8)) ap
    else pdq ltInt (pdq ltInt d4 (mid + 1) b limit true true) a mid limit (decide (b - mid ≥ (b - a) / 8)) ap
   else d4
def e0k (d2:Array Int) (a b limit:Nat) (wb wp:Bool) (pivot:Nat) (hint:Hint):Array Int:=
 let pi:=if wb && wp && hint = .increasing then partialInsertionSort ltInt d2 a b else (d2,false)
 if pi.2 then pi.1 else e30 pi.1 a b limit wb wp pivot
def e31 (d1:Array Int) (a b limit:Nat) (wb wp:Bool):Array Int:=
 let c:=choosePivot ltInt d1 a b
 if c.2 = .decreasing then e0k (reverseRange d1 a b) a b limit wb wp ((b - 1) - (c.1 - a)) .increasing
 else e0k d1 a b limit wb wp c.1 c.2
theorem e58 (d:Array Int) (a b limit:Nat) (wb wp:Bool):pdq ltInt d a b limit wb wp = if b - a ≤ 12 then insertionSort ltInt d a b else if limit = 0 then heapSort ltInt d a b else
 e31 (if !wb then breakPatterns d a b else d) a b (if !wb then limit - 1 else limit) wb wp:=by
 conv=>lhs;unfold pdq
 unfold e31 e0k e30
 simp only [dite_eq_ite]
 by_cases h1:b - a ≤ 12
 ·rw [if_pos h1,if_pos h1]
 ·rw [if_neg h1,if_neg h1]
  by_cases h2:limit = 0
  ·rw [if_pos h2,if_pos h2]
  ·rw [if_neg h2,if_neg h2]
   by_cases h3:(choosePivot ltInt (if (!wb) = true then breakPatterns d a b else d) a b).2 = Hint.decreasing
   ·simp only [h3,if_true]
   ·simp only [h3,if_false]
end Go.Pc
/- PcCir: circuits as d05 data: nodes, how they are laid in cells; the small circuits of the statements. Plain definitions. -/
namespace Go.Pc
open Go.Ax
abbrev Rep:=Option (Option Nat)
def a0o (n:Nat):List AV:=[.int .i64 n]
def u8R (n:Nat):List AV:=[.int .u8 n]
structure Nd where
 kind:Nat
 c:Rep
 ins:List Nat
 mem:Nat
 bit:Nat
def Nd.enc (x:Nd):List AV:=[.int .u8 x.kind,sl x.c (x.ins.map a0o),.int .i64 x.mem,.int .i64 x.bit]
structure GX where
 kind:Nat
 i0:Nat
 i1:Nat
 i2:Nat
def GX.enc (g:GX):List AV:=[.int .u8 g.kind,.int .u8 g.i0,.int .u8 g.i1,.int .u8 g.i2]
def GX.ok (g:GX):Prop:=g.kind < 256 ∧ g.i0 < 256 ∧ g.i1 < 256 ∧ g.i2 < 256
structure CX where
 inn:Nat
 dffs:Nat
 d0:Nat
 d1:Nat
 bus:Bool
 mem:Bool
 p0:Nat
 p1:Nat
 p2:Nat
 p3:Nat
 gc:Rep
 gates:List GX
 oc:Rep
 outs:List Nat
def CX.enc (x:CX):List AV:=[.int .u8 x.inn,.int .u8 x.dffs,.int .u8 x.d0,.int .u8 x.d1,.bool x.bus,.bool x.mem,.int .u8 x.p0,.int .u8 x.p1,.int .u8 x.p2,.int .u8 x.p3,sl x.gc (x.gates.map GX.enc),sl x.oc (x.outs.map u8R)]
structure CX.ok (x:CX):Prop where
 inn:x.inn < 256
 dffs:x.dffs < 256
 d0:x.d0 < 256
 d1:x.d1 < 256
 gates:∀ g ∈ x.gates,g.ok
 outs:∀ o ∈ x.outs,o < 256
def d16 (k:Nat):Bool:=k == 12
def a5g (ks:List Nat) (n:Nat):List Nat:=(List.range n).filter fun i=>(ks[i]?).any d16
def a8o (ks:List Nat):List Nat:=a5g ks ks.length
theorem b98 {ks:List Nat} {n k:Nat} (h:ks[n]? = some k):a5g ks (n + 1) = if k = 12 then a5g ks n ++ [n] else a5g ks n:=by
 unfold a5g
 rw [List.range_succ,List.filter_append]
 by_cases hk:k = 12
 ·subst hk;simp [h,d16]
 ·simp [h,d16,hk]
theorem b71 (ks:List Nat) (n:Nat):(a5g ks n).length ≤ n:=by
 unfold a5g
 exact Nat.le_trans (List.length_filter_le _ _) (by simp)
theorem c2c {ks:List Nat} {n x:Nat} (h:x ∈ a5g ks n):x < n ∧ ks[x]? = some 12:=by
 unfold a5g at h
 rw [List.mem_filter] at h
 obtain ⟨h1,h2⟩:=h
 refine ⟨by simpa using h1,?_⟩
 cases hk:ks[x]? with
 | none=>simp [hk] at h2
 | some k=>simp [hk,d16] at h2;rw [h2]
def a0n (bus:Bool) (g:GX) (ks:List Nat):Nd:=
 let n:=ks.length
 let a:=g.i0 % n
 let b:=g.i1 % n
 let d:=g.i2 % n
 let tris:=a8o ks
 let kind:=if bus then g.kind % 13 else g.kind % 9
 if kind < 6 then (if 128 ≤ g.kind then ⟨5 + kind,some none,[a,b,d],0,0⟩ else ⟨5 + kind,some (some 2),[a,b],0,0⟩)
 else if kind = 6 then ⟨4,some (some 1),[a],0,0⟩
 else if kind = 7 then ⟨11,some (some 3),[a,b,d],0,0⟩
 else if kind = 9 ∨ kind = 10 then ⟨12,some (some 2),[a,b],0,0⟩
 else if 10 < kind ∧ 0 < tris.length then
  (if 1 < tris.length then ⟨13,some none,[tris.getD (g.i0 % tris.length) 0,tris.getD ((g.i0 % tris.length + 1) % tris.length) 0],0,0⟩
   else ⟨13,some (some 1),[tris.getD (g.i0 % tris.length) 0],0,0⟩)
 else if 240 < g.kind then ⟨1 + g.i0 % 2,none,[],0,0⟩
 else ⟨3,some (some 1),[a],0,0⟩
def gN (bus:Bool):List Nat → List GX → List Nd
 | _,[]=>[]
 | ks,g :: r=>a0n bus g ks :: gN bus (ks ++ [(a0n bus g ks).kind]) r
theorem b67 (bus:Bool) (g:GX):∀ (l:List GX) (ks:List Nat),gN bus ks (l ++ [g]) = gN bus ks l ++ [a0n bus g (ks ++ (gN bus ks l).map Nd.kind)]
 | [],ks=>by simp [gN]
 | a :: l,ks=>by simp [gN,b67 bus g l]
theorem a4u (bus:Bool):∀ (l:List GX) (ks:List Nat),(gN bus ks l).length = l.length
 | [],_=>rfl
 | a :: l,ks=>by simp [gN,a4u bus l]
def CX.k (x:CX):Nat:=x.inn % 4 + 1
def CX.d (x:CX):Nat:=x.dffs % 3
def CX.base (x:CX):List Nat:=List.replicate x.k 0 ++ List.replicate x.d 14
def CX.gs (x:CX):List GX:=x.gates.take 8
def CX.n (x:CX):Nat:=x.k + x.d + x.gs.length
def a96:Nd:=⟨0,none,[],0,0⟩
def a3s (v:Nat):Nd:=⟨14,some (some 1),[v],0,0⟩
def CX.dn (x:CX):List Nd:=([x.d0,x.d1].take x.d).map fun v=>a3s (v % x.n)
def CX.nodes (x:CX):List Nd:=List.replicate x.k a96 ++ x.dn ++ gN x.bus x.base x.gs
def a2z (i:Nat):List UInt8:=[110,UInt8.ofNat (48 + i / 10),UInt8.ofNat (48 + i % 10)]
def a4e (s:List UInt8):List AV:=[.str s]
def CX.names (x:CX):List (List UInt8):=(List.range x.n).map a2z
def CX.outN (x:CX):List Nat:=(x.outs.take 3).map (·% x.n) ++ [x.n - 1]
structure Cir where
 nc:Rep
 nodes:List Nd
 mc:Rep
 names:List (List UInt8)
 oc:Rep
 outs:List Nat
def Cir.enc (c:Cir):List AV:=[sl c.nc (c.nodes.map Nd.enc),sl c.mc (c.names.map a4e),.nilslice,sl c.oc (c.outs.map a0o)]
def CX.cir (x:CX):Cir:=⟨some none,x.nodes,some none,x.names,some none,x.outN⟩
attribute [go_sem] a4e
theorem CX.gs_take (x:CX):x.gates.take x.gs.length = x.gs:=by
 unfold CX.gs
 rw [List.length_take]
 by_cases h:x.gates.length ≤ 8
 ·rw [Nat.min_eq_right h,List.take_length,List.take_of_length_le h]
 ·rw [Nat.min_eq_left (by omega)]
theorem a14 {α:Type} {l:List α} {i:Nat} {a:α} (h:l[i]? = some a):l.take (i + 1) = l.take i ++ [a]:=by
 rw [List.take_add_one,h];rfl
theorem b0k {α:Type} (a:α) (k i:Nat) (l:List α):(List.replicate k a ++ l)[k + i]? = l[i]?:=by
 rw [List.getElem?_append_right (by simp)];simp
theorem a8j {α:Type} (a:α) (k:Nat) (l:List α):(List.replicate k a ++ l)[k]? = l[0]?:=by
 rw [List.getElem?_append_right (by simp)];simp
theorem b09 {α:Type} (a v:α) (k i:Nat) (l:List α):(List.replicate k a ++ l).set (k + i) v = List.replicate k a ++ l.set i v:=by
 rw [List.set_append_right _ _ (by simp)];simp
theorem a8b {α:Type} (a v:α) (k:Nat) (l:List α):(List.replicate k a ++ l).set k v = List.replicate k a ++ l.set 0 v:=by
 rw [List.set_append_right _ _ (by simp)];simp
def KindRows (R:List (List AV)) (ks:List Nat):Prop:=R.length = ks.length ∧ ∀ (i k:Nat),ks[i]? = some k → ∃ v x y,R[i]? = some [.int .u8 k,v,x,y]
def FixR (m:Nat) (R:List (List AV)):Prop:=∀ π:Nat → Option Nat,(∀ b,b < m → π b = some b) → R.map (fun r=>r.map (ren π)) = R
theorem KindRows.append {R R':List (List AV)} {ks ks':List Nat} (h:KindRows R ks) (h':KindRows R' ks'):KindRows (R ++ R') (ks ++ ks'):=by
 refine ⟨by simp [h.1,h'.1],fun i k hk=>?_⟩
 by_cases hi:i < ks.length
 ·rw [List.getElem?_append_left hi] at hk
  rw [List.getElem?_append_left (by rw [h.1];exact hi)]
  exact h.2 i k hk
 ·rw [List.getElem?_append_right (by omega)] at hk
  rw [List.getElem?_append_right (by rw [h.1];omega),h.1]
  exact h'.2 _ k hk
theorem KindRows.nil:KindRows [] []:=⟨rfl,fun i k h=>by simp at h⟩
theorem KindRows.cons {k:Nat} {v x y:AV} {R:List (List AV)} {ks:List Nat} (h:KindRows R ks):KindRows ([.int .u8 k,v,x,y] :: R) (k :: ks):=by
 refine ⟨by simp [h.1],fun i q hq=>?_⟩
 cases i with
 | zero=>simp only [List.getElem?_cons_zero,Option.some.injEq] at hq ⊢;subst hq;exact ⟨v,x,y,rfl⟩
 | succ i=>simp only [List.getElem?_cons_succ] at hq ⊢;exact h.2 i q hq
theorem KindRows.rep (n k:Nat) (v x y:AV):KindRows (List.replicate n [.int .u8 k,v,x,y]) (List.replicate n k):=by
 induction n with
 | zero=>exact KindRows.nil
 | succ n ih=>rw [List.replicate_succ,List.replicate_succ];exact ih.cons
theorem KindRows.nds:∀ l:List Nd,KindRows (l.map Nd.enc) (l.map Nd.kind)
 | []=>KindRows.nil
 | _ :: l=>(KindRows.nds l).cons
theorem FixR.append {m:Nat} {R R':List (List AV)} (h:FixR m R) (h':FixR m R'):FixR m (R ++ R'):=by
 intro π hπ;rw [List.map_append,h π hπ,h' π hπ]
theorem FixR.flat {m:Nat} {R:List (List AV)} (h:FlatR R):FixR m R:=fun π _=>a01 π h
theorem c1u (l:List Nd):FlatR (l.map Nd.enc):=FlatR.map fun x=>by simp only [Nd.enc,a0d,a2y,refs];rfl
attribute [go_sem] Nd.enc GX.enc CX.enc a0o u8R List.length_map List.getElem?_map
end Go.Pc
/- PcWord: words of 64 values as d05 data. Plain definitions. -/
namespace Go.Pc
open Go.Ax
structure W where
 one:BitVec 64
 zero:BitVec 64
def W.enc (w:W):List AV:=[u64 w.one,u64 w.zero]
attribute [go_sem] W.enc
def b1a (v:Nat):Nat:=if 3 < v then 2 else v
def a2j (v:Nat):W:=match b1a v with
 | 0=>⟨0#64,BitVec.allOnes 64⟩
 | 1=>⟨BitVec.allOnes 64,0#64⟩
 | 2=>⟨0#64,0#64⟩
 | _=>⟨BitVec.allOnes 64,BitVec.allOnes 64⟩
def c8v (a b:W):W:=⟨a.one &&& b.one,a.zero ||| b.zero⟩
def wOr (a b:W):W:=⟨a.one ||| b.one,a.zero &&& b.zero⟩
def c8u (a b:W):W:=⟨a.one &&& b.zero ||| a.zero &&& b.one,a.one &&& b.one ||| a.zero &&& b.zero⟩
def a5t (f:W → W → W) (z:W) (l:List W):W:=l.foldl f z
def a4p (w:W):W:=⟨w.one &&& ~~~(w.one &&& w.zero),w.zero &&& ~~~(w.one &&& w.zero)⟩
def d36 (w:W):W:=⟨w.zero,w.one⟩
def d8n (s a b:W):W:=⟨s.zero &&& a.one ||| s.one &&& b.one ||| a.one &&& b.one,s.zero &&& a.zero ||| s.one &&& b.zero ||| a.zero &&& b.zero⟩
def d8m (e d:W):W:=⟨e.zero ||| e.one &&& d.one,e.zero ||| e.one &&& d.zero⟩
def d7p (s:BitVec 64 × BitVec 64 × BitVec 64) (w:W):BitVec 64 × BitVec 64 × BitVec 64:=(s.1 ||| (w.one &&& ~~~w.zero),s.2.1 ||| (w.zero &&& ~~~w.one),s.2.2 ||| ~~~(w.one ||| w.zero))
def c3s (l:List W):BitVec 64 × BitVec 64 × BitVec 64:=l.foldl d7p (BitVec.ofInt 64 0,BitVec.ofInt 64 0,BitVec.ofInt 64 0)
def e20 (s:BitVec 64 × BitVec 64 × BitVec 64):W:=⟨~~~s.2.1 &&& ~~~(s.2.2 ||| (s.1 &&& s.2.1)),~~~s.1 &&& ~~~(s.2.2 ||| (s.1 &&& s.2.1))⟩
def c4c (l:List W):W:=e20 (c3s l)
theorem b8o {l:List W} {i:Nat} {x:W} (h:l[i]? = some x):c3s (l.take (i + 1)) = d7p (c3s (l.take i)) x:=by
 unfold c3s;rw [a14 h,List.foldl_append];rfl
theorem b07 {f:W → W → W} {z:W} {l:List W} {i:Nat} {x:W} (h:l[i]? = some x):a5t f z (l.take (i + 1)) = f (a5t f z (l.take i)) x:=by
 unfold a5t;rw [a14 h,List.foldl_append];rfl
theorem d6z (l:List W):FlatR (l.map W.enc):=FlatR.map fun _=>rfl
theorem a3b (l:List W):(l.map W.enc).flatMap a0d = []:=a03 (d6z l)
theorem a56 (π:Nat → Option Nat) (l:List W):(l.map W.enc).map (fun r=>r.map (ren π)) = l.map W.enc:=a01 π (d6z l)
attribute [go_sem] a3b a56
def a1z (k:Nat):Nat:=[0,0,0,1,1,2,2,2,2,2,2,3,2,1,1,0].getD k 0
def a1o (k:Nat):Nat:=[0,0,0,1,1,16,16,16,16,16,16,3,2,16,1,0].getD k 0
def zW:W:=⟨0#64,0#64⟩
def a1n (k:Nat) (r:List W):W:=match k with
 | 1=>a2j 0
 | 2=>a2j 1
 | 3=>r.getD 0 zW
 | 4=>d36 (r.getD 0 zW)
 | 5=>a5t c8v (a2j 1) r
 | 6=>d36 (a5t c8v (a2j 1) r)
 | 7=>a5t wOr (a2j 0) r
 | 8=>d36 (a5t wOr (a2j 0) r)
 | 9=>a5t c8u (a2j 0) r
 | 10=>d36 (a5t c8u (a2j 0) r)
 | 11=>d8n (r.getD 0 zW) (r.getD 1 zW) (r.getD 2 zW)
 | 12=>d8m (r.getD 0 zW) (r.getD 1 zW)
 | _=>a2j 2
def a3u (k:Nat) (l:List W):W:=
 if l.length < a1z k ∨ a1o k < l.length then a2j 2
 else if k = 13 then c4c l
 else a1n k (l.map a4p)
def rdW (l:List W) (i:Nat):List W:=(l.take i).map a4p ++ List.replicate (l.length - i) zW
theorem c0z (l:List W):rdW l 0 = List.replicate l.length zW:=by simp [rdW]
theorem c5j (l:List W):rdW l l.length = l.map a4p:=by simp [rdW]
theorem c5i {l:List W} {i:Nat} (h:i < l.length):(rdW l i)[i]? = some zW:=by
 unfold rdW
 rw [List.getElem?_append_right (by simp;omega)]
 simp [List.getElem?_replicate]
 omega
theorem d5m {l:List W} {i:Nat} {x:W} (h:l[i]? = some x):(rdW l i).set i (a4p x) = rdW l (i + 1):=by
 have hi:=(List.getElem?_eq_some_iff.1 h).1
 unfold rdW
 rw [List.set_append_right _ _ (by simp;omega),a14 h,List.map_append,List.append_assoc]
 congr 1
 have e:l.length - i = (l.length - (i + 1)) + 1:=by omega
 rw [e,List.replicate_succ]
 have e2:i - ((l.take i).map a4p).length = 0:=by simp;omega
 rw [e2]
 rfl
theorem c12 {l:List W} {i:Nat} {x:W} (h:l[i]? = some x):((rdW l i).map W.enc).set i [u64 (a4p x).one,u64 (a4p x).zero] = (rdW l (i + 1)).map W.enc:=by
 rw [← d5m h,List.map_set];rfl
def d7q (n:Nat):BitVec 64:=BitVec.ofInt 64 1 <<< n
def b0x (w:W) (n v:Nat):W:=⟨w.one &&& ~~~d7q n ||| (a2j v).one &&& d7q n,w.zero &&& ~~~d7q n ||| (a2j v).zero &&& d7q n⟩
def a1v (k:Nat):Bool:=decide (1 ≤ k) && decide (k ≤ 13)
end Go.Pc
/- PcSim: one cycle of a circuit, over words or over single values; lanes of words are single values. Plain definitions. -/
namespace Go.Pc
open Go.Ax
structure Alg (α:Type) where
 ev:Nat → List α → α
 z:α
 fill:Nat → α
structure Hk (α:Type) where
 net:Nat → α → α
 pin:Nat → Nat → α → α
structure Flt where
 model:Nat
 node:Nat
 pin:Int
 value:Nat
 other:Nat
def Flt.enc (f:Flt):List AV:=[.int .u8 f.model,.int .i64 f.node,.int .i64 f.pin,.int .u8 f.value,.int .i64 f.other]
structure Pat where
 ic:Rep
 ins:List Nat
 sc:Rep
 sts:List Nat
def Pat.enc (p:Pat):List AV:=[sl p.ic (p.ins.map u8R),sl p.sc (p.sts.map u8R)]
section
variable {α:Type} (A:Alg α) (nodes:List Nd) (h:Hk α)
def a1h (nodes:List Nd) (n:Nat):Nat:=(nodes[n]?.map Nd.kind).getD 0
def a32 (nodes:List Nd) (n:Nat):List Nat:=(nodes[n]?.map Nd.ins).getD []
def a74 (n:Nat) (nets:List α):Nat → List Nat → List α
 | _,[]=>[]
 | p,m :: r=>h.pin n p (nets.getD m A.z) :: a74 n nets (p + 1) r
def a1u (nets:List α) (n:Nat):List α:=a74 A h n nets 0 (a32 nodes n)
def stepG (nets:List α) (n:Nat):List α:=
 nets.set n (h.net n (if a1h nodes n ≠ 0 ∧ a1h nodes n ≠ 14 then A.ev (a1h nodes n) (a1u A nodes h nets n) else nets.getD n A.z))
def a64 (nets:List α):List Nat → List α → List α
 | i :: is,v :: vs=>a64 (nets.set i v) is vs
 | _,_=>nets
def c2v (ord ins sts:List Nat) (vi vs:List α):List α:=
 ord.foldl (stepG A nodes h) (a64 (a64 (List.replicate nodes.length A.z) ins vi) sts vs)
def c2g (outs sts:List Nat) (nets:List α):List α:=
 outs.map (fun n=>nets.getD n A.z) ++ sts.map (fun n=>(a1u A nodes h nets n).getD 0 A.z)
def hk0:Hk α:=⟨fun _ w=>w,fun _ _ w=>w⟩
def a1w (good:List α) (f:Flt):α:=
 if f.model = 0 then A.fill f.value
 else if f.model = 3 then good.getD f.other A.z
 else if f.value = 0 then A.ev 5 [good.getD f.node A.z,good.getD f.other A.z]
 else A.ev 7 [good.getD f.node A.z,good.getD f.other A.z]
def Flt.hitsNet (f:Flt) (n:Nat):Bool:=decide (f.pin < 0) && (decide (n = f.node) || (decide (f.model = 2) && decide (n = f.other)))
def Flt.hitsPin (f:Flt) (n p:Nat):Bool:=decide (0 ≤ f.pin) && (decide (n = f.node) && decide ((p:Int) = f.pin))
def hkF (f:Flt) (v:α):Hk α:=⟨fun n w=>if f.hitsNet n then v else w,fun n p w=>if f.hitsPin n p then v else w⟩
end
structure Hom {α β:Type} (A:Alg α) (B:Alg β) (φ:α → β):Prop where
 ev:∀ k l,φ (A.ev k l) = B.ev k (l.map φ)
 z:φ A.z = B.z
 fill:∀ v,φ (A.fill v) = B.fill v
structure HkHom {α β:Type} (φ:α → β) (h:Hk α) (k:Hk β):Prop where
 net:∀ n w,φ (h.net n w) = k.net n (φ w)
 pin:∀ n p w,φ (h.pin n p w) = k.pin n p (φ w)
section
variable {α β:Type} {A:Alg α} {B:Alg β} {φ:α → β} (hφ:Hom A B φ) {nodes:List Nd} {h:Hk α} {k:Hk β} (hk:HkHom φ h k)
include hφ
theorem a79 (l:List α) (n:Nat):φ (l.getD n A.z) = (l.map φ).getD n B.z:=by
 simp only [List.getD_eq_getElem?_getD,List.getElem?_map]
 cases l[n]? with
 | none=>exact hφ.z
 | some x=>rfl
include hk
theorem b22 (n:Nat) (nets:List α):∀ (l:List Nat) (p:Nat),(a74 A h n nets p l).map φ = a74 B k n (nets.map φ) p l
 | [],_=>rfl
 | m :: r,p=>by simp only [a74,List.map_cons,hk.pin,a79 hφ,b22 n nets r (p + 1)]
theorem b4e (nets:List α) (n:Nat):(a1u A nodes h nets n).map φ = a1u B nodes k (nets.map φ) n:=b22 hφ hk n nets _ 0
theorem c4m (nets:List α) (n:Nat):(stepG A nodes h nets n).map φ = stepG B nodes k (nets.map φ) n:=by
 unfold stepG
 rw [List.map_set,hk.net]
 congr 2
 split
 ·rw [hφ.ev,b4e hφ hk]
 ·exact a79 hφ _ _
omit hk in
omit hφ in
theorem b2f:∀ (is:List Nat) (vs:List α) (nets:List α),(a64 nets is vs).map φ = a64 (nets.map φ) is (vs.map φ)
 | [],vs,nets=>by cases vs<;>rfl
 | i :: is,[],nets=>rfl
 | i :: is,v :: vs,nets=>by simp only [a64,List.map_cons,b2f is vs,List.map_set]
theorem b7n (ord ins sts:List Nat) (vi vs:List α):(c2v A nodes h ord ins sts vi vs).map φ = c2v B nodes k ord ins sts (vi.map φ) (vs.map φ):=by
 unfold c2v
 have key:∀ (ord:List Nat) (n0:List α),(ord.foldl (stepG A nodes h) n0).map φ = ord.foldl (stepG B nodes k) (n0.map φ):=by
  intro ord
  induction ord with
  | nil=>intro n0;rfl
  | cons a l ih=>intro n0;simp only [List.foldl_cons,ih,c4m hφ hk]
 rw [key,b2f,b2f,List.map_replicate,hφ.z]
theorem b77 (outs sts:List Nat) (nets:List α):(c2g A nodes h outs sts nets).map φ = c2g B nodes k outs sts (nets.map φ):=by
 unfold c2g
 simp only [List.map_append,List.map_map]
 congr 1
 ·exact List.map_congr_left fun n _=>a79 hφ _ _
 ·refine List.map_congr_left fun n _=>?_
  simp only [Function.comp,a79 hφ,b4e hφ hk]
omit hk in
theorem c3d (good:List α) (f:Flt):φ (a1w A good f) = a1w B (good.map φ) f:=by
 unfold a1w
 split
 ·exact hφ.fill _
 split
 ·exact a79 hφ _ _
 split
 ·rw [hφ.ev];simp only [List.map_cons,List.map_nil,a79 hφ]
 ·rw [hφ.ev];simp only [List.map_cons,List.map_nil,a79 hφ]
omit hk hφ in
theorem c6u:HkHom φ (hk0:Hk α) (hk0:Hk β):=⟨fun _ _=>rfl,fun _ _ _=>rfl⟩
omit hk hφ in
theorem d6k (f:Flt) (v:α):HkHom φ (hkF f v) (hkF f (φ v)):=⟨fun n w=>by unfold hkF;dsimp only;split<;>rfl,fun n p w=>by unfold hkF;dsimp only;split<;>rfl⟩
end
/-! ### single values -/
abbrev V2:=Bool × Bool
def a2m (v:Nat):V2:=match b1a v with
 | 0=>(false,true)
 | 1=>(true,false)
 | 2=>(false,false)
 | _=>(true,true)
def e2f (a b:V2):V2:=(a.1 && b.1,a.2 || b.2)
def vOr (a b:V2):V2:=(a.1 || b.1,a.2 && b.2)
def e2e (a b:V2):V2:=(a.1 && b.2 || a.2 && b.1,a.1 && b.1 || a.2 && b.2)
def d4i (w:V2):V2:=(w.1 && !(w.1 && w.2),w.2 && !(w.1 && w.2))
def d9v (w:V2):V2:=(w.2,w.1)
def e49 (s a b:V2):V2:=(s.2 && a.1 || s.1 && b.1 || a.1 && b.1,s.2 && a.2 || s.1 && b.2 || a.2 && b.2)
def e48 (e d:V2):V2:=(e.2 || e.1 && d.1,e.2 || e.1 && d.2)
def c96 (s:Bool × Bool × Bool) (w:V2):Bool × Bool × Bool:=(s.1 || (w.1 && !w.2),s.2.1 || (w.2 && !w.1),s.2.2 || !(w.1 || w.2))
def d4h (s:Bool × Bool × Bool):V2:=(!s.2.1 && !(s.2.2 || (s.1 && s.2.1)),!s.1 && !(s.2.2 || (s.1 && s.2.1)))
def e4a (l:List V2):V2:=d4h (l.foldl c96 (false,false,false))
def c4d (k:Nat) (r:List V2):V2:=match k with
 | 1=>a2m 0
 | 2=>a2m 1
 | 3=>r.getD 0 (false,false)
 | 4=>d9v (r.getD 0 (false,false))
 | 5=>r.foldl e2f (a2m 1)
 | 6=>d9v (r.foldl e2f (a2m 1))
 | 7=>r.foldl vOr (a2m 0)
 | 8=>d9v (r.foldl vOr (a2m 0))
 | 9=>r.foldl e2e (a2m 0)
 | 10=>d9v (r.foldl e2e (a2m 0))
 | 11=>e49 (r.getD 0 (false,false)) (r.getD 1 (false,false)) (r.getD 2 (false,false))
 | 12=>e48 (r.getD 0 (false,false)) (r.getD 1 (false,false))
 | _=>a2m 2
def d4j (k:Nat) (l:List V2):V2:=
 if l.length < a1z k ∨ a1o k < l.length then a2m 2
 else if k = 13 then e4a l
 else c4d k (l.map d4i)
def a1s:Alg W:=⟨a3u,zW,a2j⟩
def b3o:Alg V2:=⟨d4j,(false,false),a2m⟩
def a31 (j:Nat) (w:W):V2:=(w.one.getLsbD j,w.zero.getLsbD j)
section
variable {j:Nat} (hj:j < 64)
include hj
theorem a9k (v:Nat):a31 j (a2j v) = a2m v:=by
 have ha:(BitVec.allOnes 64).getLsbD j = true:=by rw [BitVec.getLsbD_allOnes];simpa using hj
 have hz:(0#64).getLsbD j = false:=BitVec.getLsbD_zero
 unfold a2j a2m
 split<;>simp only [a31,ha,hz, *]
theorem c6d (w:W):a31 j (a4p w) = d4i (a31 j w):=by
 simp [a4p,d4i,a31,hj]
omit hj in
theorem d0t (a b:W):a31 j (c8v a b) = e2f (a31 j a) (a31 j b):=by simp [c8v,e2f,a31]
omit hj in
theorem d6c (a b:W):a31 j (wOr a b) = vOr (a31 j a) (a31 j b):=by simp [wOr,vOr,a31]
omit hj in
theorem d0o (a b:W):a31 j (c8u a b) = e2e (a31 j a) (a31 j b):=by simp [c8u,e2e,a31]
omit hj in
theorem d0q (a:W):a31 j (d36 a) = d9v (a31 j a):=rfl
omit hj in
theorem d0r (s a b:W):a31 j (d8n s a b) = e49 (a31 j s) (a31 j a) (a31 j b):=by simp [d8n,e49,a31]
omit hj in
theorem d0p (a b:W):a31 j (d8m a b) = e48 (a31 j a) (a31 j b):=by simp [d8m,e48,a31]
omit hj in
theorem a9j {f:W → W → W} {g:V2 → V2 → V2} (h:∀ a b,a31 j (f a b) = g (a31 j a) (a31 j b)):∀ (l:List W) (z:W),a31 j (l.foldl f z) = (l.map (a31 j)).foldl g (a31 j z)
 | [],_=>rfl
 | a :: l,z=>by simp only [List.foldl_cons,List.map_cons,a9j h l,h]
def b7v (j:Nat) (s:BitVec 64 × BitVec 64 × BitVec 64):Bool × Bool × Bool:=(s.1.getLsbD j,s.2.1.getLsbD j,s.2.2.getLsbD j)
theorem c6g (s:BitVec 64 × BitVec 64 × BitVec 64) (w:W):b7v j (d7p s w) = c96 (b7v j s) (a31 j w):=by
 simp [b7v,d7p,c96,a31,hj]
theorem c6h (s:BitVec 64 × BitVec 64 × BitVec 64):a31 j (e20 s) = d4h (b7v j s):=by
 simp [b7v,e20,d4h,a31,hj]
theorem d0s (l:List W):a31 j (c4c l) = e4a (l.map (a31 j)):=by
 unfold c4c e4a c3s
 rw [c6h hj]
 congr 1
 have key:∀ (l:List W) s,b7v j (l.foldl d7p s) = (l.map (a31 j)).foldl c96 (b7v j s):=by
  intro l
  induction l with
  | nil=>intro s;rfl
  | cons a l ih=>intro s;simp only [List.foldl_cons,List.map_cons,ih,c6g hj]
 rw [key]
 congr 1
 simp [b7v]
omit hj in
theorem c6e (l:List W) (n:Nat):a31 j (l.getD n zW) = (l.map (a31 j)).getD n (false,false):=by
 simp only [List.getD_eq_getElem?_getD,List.getElem?_map]
 cases l[n]? with
 | none=>simp [a31,zW]
 | some x=>rfl
theorem c31 (k:Nat) (l:List W):a31 j (a1n k l) = c4d k (l.map (a31 j)):=by
 unfold a1n c4d
 split<;>simp only [a9k hj,d0q,d0r,d0p,c6e,a5t,a9j d0t,a9j d6c,a9j d0o]
theorem c6f (k:Nat) (l:List W):a31 j (a3u k l) = d4j k (l.map (a31 j)):=by
 unfold a3u d4j
 rw [List.length_map]
 split
 ·exact a9k hj 2
 split
 ·exact d0s hj l
 ·rw [c31 hj,List.map_map,List.map_map]
  congr 1
  exact List.map_congr_left fun w _=>c6d hj w
theorem d6d:Hom a1s b3o (a31 j):=⟨c6f hj,by simp [a1s,b3o,a31,zW],a9k hj⟩
end
/-! ### contradictions -/
def ctr (x y:W):BitVec 64:=(x.one &&& ~~~x.zero &&& y.zero &&& ~~~y.one) ||| (x.zero &&& ~~~x.one &&& y.one &&& ~~~y.zero)
def e73 (x y:V2):Bool:=(x.1 && !x.2 && y.2 && !y.1) || (x.2 && !x.1 && y.1 && !y.2)
def b6z:List W → List W → BitVec 64 → BitVec 64
 | x :: xs,y :: ys,s=>b6z xs ys (s ||| ctr x y)
 | _,_,s=>s
def c95:List V2 → List V2 → Bool → Bool
 | x :: xs,y :: ys,s=>c95 xs ys (s || e73 x y)
 | _,_,s=>s
theorem b7u {j:Nat} (hj:j < 64):∀ (a b:List W) (s:BitVec 64),(b6z a b s).getLsbD j = c95 (a.map (a31 j)) (b.map (a31 j)) (s.getLsbD j)
 | [],b,s=>by cases b<;>rfl
 | x :: xs,[],s=>rfl
 | x :: xs,y :: ys,s=>by
  simp only [b6z,c95,List.map_cons,b7u hj xs ys]
  congr 1
  simp [ctr,e73,a31,hj]
/-! ### a circuit -/
structure Sim where
 nodes:List Nd
 ord:List Nat
 ins:List Nat
 sts:List Nat
 outs:List Nat
section
variable {α:Type} (A:Alg α) (S:Sim)
def Sim.nets (h:Hk α) (vi vs:List α):List α:=c2v A S.nodes h S.ord S.ins S.sts vi vs
def Sim.seen (h:Hk α) (nets:List α):List α:=c2g A S.nodes h S.outs S.sts nets
end
def Sim.det (S:Sim) (f:Flt) (p:Pat):Bool:=
 let vi:=p.ins.map a2m
 let vs:=p.sts.map a2m
 let good:=S.nets b3o hk0 vi vs
 let h:=hkF f (a1w b3o good f)
 c95 (S.seen b3o hk0 good) (S.seen b3o h (S.nets b3o h vi vs)) false
end Go.Pc
/- PcWf: the circuits of the statements are valid. Plain. -/
namespace Go.Pc
open Go.Ax
structure Cir.wf (c:Cir):Prop where
 pos:0 < c.nodes.length
 len:c.nodes.length ≤ 14
 names:c.names = (List.range c.nodes.length).map a2z
 kind:∀ x ∈ c.nodes,x.kind ≤ 14
 lo:∀ x ∈ c.nodes,a1z x.kind ≤ x.ins.length
 hi:∀ x ∈ c.nodes,x.ins.length ≤ a1o x.kind
 ins:∀ x ∈ c.nodes,∀ m ∈ x.ins,m < c.nodes.length
 bus:∀ x ∈ c.nodes,x.kind = 13 → ∀ m ∈ x.ins,a1h c.nodes m = 12
 mem:∀ x ∈ c.nodes,x.mem = 0 ∧ x.bit = 0
 acyc:∀ (i:Nat) (x:Nd),c.nodes[i]? = some x → a1v x.kind = true → ∀ m ∈ x.ins,m < i
 outs:∀ o ∈ c.outs,o < c.nodes.length
 outl:c.outs.length ≤ 4
theorem d73 {k:Nat} (h:k < 6):a1z (5 + k) = 2 ∧ a1o (5 + k) = 16:=by
 have:k = 0 ∨ k = 1 ∨ k = 2 ∨ k = 3 ∨ k = 4 ∨ k = 5:=by omega
 rcases this with rfl|rfl|rfl|rfl|rfl|rfl<;>exact ⟨rfl,rfl⟩
structure GateOk (ks:List Nat) (x:Nd):Prop where
 k1:1 ≤ x.kind
 k13:x.kind ≤ 13
 lo:a1z x.kind ≤ x.ins.length
 hi:x.ins.length ≤ a1o x.kind
 ins:∀ m ∈ x.ins,m < ks.length
 bus:x.kind = 13 → ∀ m ∈ x.ins,ks[m]? = some 12
 mem:x.mem = 0 ∧ x.bit = 0
theorem c0j {ks:List Nat} {i:Nat} (h:i < (a8o ks).length):(a8o ks).getD i 0 < ks.length ∧ ks[(a8o ks).getD i 0]? = some 12:=by
 have:(a8o ks).getD i 0 ∈ a8o ks:=by
  rw [List.getD,List.getElem?_eq_getElem h];exact List.getElem_mem h
 exact c2c this
theorem c6y (bus:Bool) (g:GX) (ks:List Nat) (hp:0 < ks.length):GateOk ks (a0n bus g ks):=by
 have a:=Nat.mod_lt g.i0 hp
 have b:=Nat.mod_lt g.i1 hp
 have d:=Nat.mod_lt g.i2 hp
 unfold a0n
 dsimp only
 generalize (if bus = true then g.kind % 13 else g.kind % 9) = kind
 split
 ·rename_i h6
  obtain ⟨e1,e2⟩:=d73 h6
  split
  ·exact ⟨by dsimp only;omega,by dsimp only;omega,by simp [e1],by simp [e2],by simp [a,b,d],by dsimp only;omega,⟨rfl,rfl⟩⟩
  ·exact ⟨by dsimp only;omega,by dsimp only;omega,by simp [e1],by simp [e2],by simp [a,b],by dsimp only;omega,⟨rfl,rfl⟩⟩
 split
 ·exact ⟨by dsimp only;omega,by dsimp only;omega,by simp [a1z],by simp [a1o],by simp [a],by simp,⟨rfl,rfl⟩⟩
 split
 ·exact ⟨by dsimp only;omega,by dsimp only;omega,by simp [a1z],by simp [a1o],by simp [a,b,d],by simp,⟨rfl,rfl⟩⟩
 split
 ·exact ⟨by dsimp only;omega,by dsimp only;omega,by simp [a1z],by simp [a1o],by simp [a,b],by simp,⟨rfl,rfl⟩⟩
 split
 ·rename_i h
  have t0:=c0j (Nat.mod_lt g.i0 h.2)
  split
  ·have t1:=c0j (Nat.mod_lt (g.i0 % (a8o ks).length + 1) h.2)
   refine ⟨by dsimp only;omega,by dsimp only;omega,by simp [a1z],by simp [a1o],?_,?_,⟨rfl,rfl⟩⟩
   ·intro m hm;simp only [List.mem_cons,List.not_mem_nil,or_false] at hm;rcases hm with rfl|rfl;exact t0.1;exact t1.1
   ·intro _ m hm;simp only [List.mem_cons,List.not_mem_nil,or_false] at hm;rcases hm with rfl|rfl;exact t0.2;exact t1.2
  ·refine ⟨by dsimp only;omega,by dsimp only;omega,by simp [a1z],by simp [a1o],?_,?_,⟨rfl,rfl⟩⟩
   ·intro m hm;simp only [List.mem_cons,List.not_mem_nil,or_false] at hm;subst hm;exact t0.1
   ·intro _ m hm;simp only [List.mem_cons,List.not_mem_nil,or_false] at hm;subst hm;exact t0.2
 split
 ·have:g.i0 % 2 = 0 ∨ g.i0 % 2 = 1:=by omega
  rcases this with h|h<;>rw [h]<;>exact ⟨by dsimp only;omega,by dsimp only;omega,by simp [a1z],by simp [a1o],by simp,by simp,⟨rfl,rfl⟩⟩
 ·exact ⟨by dsimp only;omega,by dsimp only;omega,by simp [a1z],by simp [a1o],by simp [a],by simp,⟨rfl,rfl⟩⟩
theorem d3r (bus:Bool):∀ (l:List GX) (ks:List Nat) (i:Nat) (x:Nd),(gN bus ks l)[i]? = some x → ∃ g,x = a0n bus g (ks ++ ((gN bus ks l).take i).map Nd.kind)
 | [],ks,i,x,h=>by simp [gN] at h
 | g :: l,ks,0,x,h=>by simp only [gN,List.getElem?_cons_zero,Option.some.injEq] at h;exact ⟨g,by rw [← h];simp⟩
 | g :: l,ks,i + 1,x,h=>by
  simp only [gN,List.getElem?_cons_succ] at h
  obtain ⟨g',hg⟩:=d3r bus l _ i x h
  exact ⟨g',by rw [hg];simp [gN]⟩
theorem CX.dn_len (x:CX):x.dn.length = x.d:=by
 have:x.d < 3:=Nat.mod_lt _ (by omega)
 unfold CX.dn;rw [List.length_map,List.length_take];simp;omega
theorem CX.nodes_len (x:CX):x.nodes.length = x.n:=by
 unfold CX.nodes CX.n
 rw [List.length_append,List.length_append,List.length_replicate,x.dn_len,a4u]
theorem CX.dn_kind (x:CX):x.dn.map Nd.kind = List.replicate x.d 14:=by
 have:x.d = 0 ∨ x.d = 1 ∨ x.d = 2:=by have:x.d < 3:=Nat.mod_lt _ (by omega);omega
 unfold CX.dn
 rcases this with h|h|h<;>rw [h]<;>rfl
theorem CX.base_len (x:CX):x.base.length = x.k + x.d:=by unfold CX.base;simp
theorem CX.kinds (x:CX):x.nodes.map Nd.kind = x.base ++ (gN x.bus x.base x.gs).map Nd.kind:=by
 unfold CX.nodes CX.base
 rw [List.map_append,List.map_append,List.map_replicate,x.dn_kind]
 rfl
theorem CX.node_cases (x:CX) {i:Nat} {nd:Nd} (h:x.nodes[i]? = some nd):nd = a96 ∨ (∃ v,nd = a3s (v % x.n)) ∨ GateOk ((x.nodes.map Nd.kind).take i) nd:=by
 unfold CX.nodes at h
 by_cases h1:i < x.k
 ·rw [List.append_assoc,List.getElem?_append_left (by simpa using h1),List.getElem?_replicate,if_pos h1] at h
  exact .inl (Option.some.inj h).symm
 rw [List.append_assoc,List.getElem?_append_right (by simpa using h1),List.length_replicate] at h
 by_cases h2:i - x.k < x.d
 ·rw [List.getElem?_append_left (by rw [x.dn_len];exact h2)] at h
  unfold CX.dn at h
  rw [List.getElem?_map] at h
  cases hv:([x.d0,x.d1].take x.d)[i - x.k]? with
  | none=>rw [hv] at h;cases h
  | some v=>rw [hv] at h;exact .inr (.inl ⟨v,(Option.some.inj h).symm⟩)
 ·rw [List.getElem?_append_right (by rw [x.dn_len];omega),x.dn_len] at h
  obtain ⟨g,hg⟩:=d3r _ _ _ _ _ h
  refine .inr (.inr ?_)
  have e:(x.nodes.map Nd.kind).take i = x.base ++ ((gN x.bus x.base x.gs).take (i - x.k - x.d)).map Nd.kind:=by
   rw [x.kinds,List.take_append,List.take_of_length_le (by rw [x.base_len];omega),x.base_len,List.map_take]
   congr 2;omega
  rw [e,hg]
  exact c6y _ _ _ (by
   rw [List.length_append,x.base_len];have:0 < x.k:=by unfold CX.k;omega
   omega)
theorem CX.wf (x:CX):x.cir.wf:=by
 have hn:=x.nodes_len
 have hk:x.k ≤ 4 ∧ 0 < x.k:=by unfold CX.k;omega
 have hd:x.d < 3:=Nat.mod_lt _ (by omega)
 have hg:x.gs.length ≤ 8:=by unfold CX.gs;rw [List.length_take];omega
 have hnn:x.n = x.k + x.d + x.gs.length:=rfl
 have key:∀ nd ∈ x.nodes,∃ i,x.nodes[i]? = some nd ∧ i < x.n:=by
  intro nd h
  obtain ⟨i,hi⟩:=List.mem_iff_getElem?.1 h
  exact ⟨i,hi,by rw [← hn];exact (List.getElem?_eq_some_iff.1 hi).1⟩
 have hl:∀ i,i < x.n → ((x.nodes.map Nd.kind).take i).length = i:=fun i hi=>by rw [List.length_take,List.length_map,hn];omega
 have hsrc:∀ nd ∈ x.nodes,nd = a96 ∨ (∃ v,nd = a3s (v % x.n)) ∨ ∃ i,i < x.n ∧ GateOk ((x.nodes.map Nd.kind).take i) nd:=by
  intro nd h
  obtain ⟨i,hi,hlt⟩:=key nd h
  rcases x.node_cases hi with h|h|h
  ·exact .inl h
  ·exact .inr (.inl h)
  ·exact .inr (.inr ⟨i,hlt,h⟩)
 refine ⟨by show 0 < x.nodes.length;omega,by show x.nodes.length ≤ 14;omega,by show x.names = _;rw [show x.cir.nodes = x.nodes from rfl,hn];rfl,?_,?_,?_,?_,?_,?_,?_,?_,?_⟩
 ·intro nd h
  rcases hsrc nd h with rfl|⟨v,rfl⟩|⟨i,hi,h⟩
  ·decide
  ·exact Nat.le_refl 14
  ·have:=h.k13;omega
 ·intro nd h
  rcases hsrc nd h with rfl|⟨v,rfl⟩|⟨i,hi,h⟩
  ·decide
  ·exact Nat.le_refl 1
  ·exact h.lo
 ·intro nd h
  rcases hsrc nd h with rfl|⟨v,rfl⟩|⟨i,hi,h⟩
  ·decide
  ·exact Nat.le_refl 1
  ·exact h.hi
 ·intro nd h m hm
  show m < x.nodes.length
  rw [hn]
  rcases hsrc nd h with rfl|⟨v,rfl⟩|⟨i,hi,h⟩
  ·simp [a96] at hm
  ·simp only [a3s,List.mem_cons,List.not_mem_nil,or_false] at hm;subst hm;exact Nat.mod_lt _ (by omega)
  ·have:=h.ins m hm;rw [hl i hi] at this;omega
 ·intro nd h h13 m hm
  rcases hsrc nd h with rfl|⟨v,rfl⟩|⟨i,hi,h⟩
  ·simp [a96] at hm
  ·simp [a3s] at h13
  ·have h1:=h.bus h13 m hm
   have h2:=h.ins m hm
   rw [hl i hi] at h2
   rw [List.getElem?_take,if_pos h2,List.getElem?_map] at h1
   show a1h x.nodes m = 12
   unfold a1h
   rw [h1];rfl
 ·intro nd h
  rcases hsrc nd h with rfl|⟨v,rfl⟩|⟨i,hi,h⟩
  ·exact ⟨rfl,rfl⟩
  ·exact ⟨rfl,rfl⟩
  ·exact h.mem
 ·intro i nd h hc m hm
  have hlt:i < x.n:=by rw [← hn];exact (List.getElem?_eq_some_iff.1 h).1
  rcases x.node_cases h with rfl|⟨v,rfl⟩|h
  ·simp [a96] at hm
  ·simp [a3s,a1v] at hc
  ·have:=h.ins m hm;rw [hl i hlt] at this;exact this
 ·intro o ho
  show o < x.nodes.length
  rw [hn]
  have ho:o ∈ x.outN:=ho
  unfold CX.outN at ho
  simp only [List.mem_append,List.mem_map,List.mem_cons,List.not_mem_nil,or_false] at ho
  rcases ho with ⟨a,_,rfl⟩|rfl
  ·exact Nat.mod_lt _ (by omega)
  ·omega
 ·show x.outN.length ≤ 4
  unfold CX.outN;simp;omega
end Go.Pc
/- PcFan: which pins read a net. Plain. -/
namespace Go.Pc
open Go.Ax
def a7x (l:Nat × Nat):List AV:=[.int .i64 l.1,.int .i64 l.2]
def cnt (L:List (Nat × Nat)) (a:Nat):Nat:=(L.map (·.1)).count a
structure FoOk (nodes:List Nd) (i k:Nat) (fo:List (List (Nat × Nat))):Prop where
 len:fo.length = nodes.length
 num:∀ (j:Nat) (L:List (Nat × Nat)),fo[j]? = some L → ∀ a,cnt L a = if a < i then (a32 nodes a).count j else if a = i then ((a32 nodes i).take k).count j else 0
theorem FoOk.zero (nodes:List Nd):FoOk nodes 0 0 (List.replicate nodes.length []):=by
 refine ⟨by simp,fun j L h a=>?_⟩
 rw [List.getElem?_replicate] at h
 split at h
 ·cases h;simp [Pc.cnt]
 ·cases h
theorem FoOk.step {nodes:List Nd} {i k m:Nat} {fo:List (List (Nat × Nat))} {L:List (Nat × Nat)} (h:FoOk nodes i k fo) (hm:(a32 nodes i)[k]? = some m) (hL:fo[m]? = some L):FoOk nodes i (k + 1) (fo.set m (L ++ [(i,k)])):=by
 refine ⟨by rw [List.length_set,h.len],fun j L' hj a=>?_⟩
 have ht:=a14 hm
 rw [List.getElem?_set] at hj
 have hml:m < fo.length:=(List.getElem?_eq_some_iff.1 hL).1
 by_cases hmj:m = j
 ·subst hmj
  simp only [if_true,hml,Option.some.injEq] at hj
  subst hj
  have:=h.num m L hL a
  have e:Pc.cnt (L ++ [(i,k)]) a = Pc.cnt L a + if i = a then 1 else 0:=by
   unfold Pc.cnt
   rw [List.map_append,List.count_append]
   by_cases hia:i = a
   ·subst hia;simp
   ·simp [hia,List.count_cons]
  rw [e,this,ht]
  by_cases h1:a < i
  ·simp [h1];omega
  ·by_cases h2:a = i
   ·subst h2;simp
   ·simp [h1,h2];omega
 ·rw [if_neg hmj] at hj
  have:=h.num j L' hj a
  rw [this,ht]
  by_cases h1:a < i
  ·simp [h1]
  ·by_cases h2:a = i
   ·subst h2
    simp [List.count_append,List.count_cons,hmj]
   ·simp [h1,h2]
theorem FoOk.next {nodes:List Nd} {i k:Nat} {fo:List (List (Nat × Nat))} (h:FoOk nodes i k fo) (hk:k = (a32 nodes i).length):FoOk nodes (i + 1) 0 fo:=by
 refine ⟨h.len,fun j L hj a=>?_⟩
 rw [h.num j L hj a]
 subst hk
 rw [List.take_length]
 by_cases h1:a < i
 ·simp [h1,show a < i + 1 by omega]
 ·by_cases h2:a = i
  ·subst h2;simp
  ·simp [h1,h2,show ¬ a < i + 1 by omega]
theorem a2e {nodes:List Nd} {i:Nat} {x:Nd} (h:nodes[i]? = some x):a32 nodes i = x.ins:=by simp [a32,h]
theorem c69 (n:Nat):∀ (L:List (Nat × Nat)),(∀ l ∈ L,l.1 < n) → L.length = ((List.range n).map fun a=>cnt L a).sum
 | [],_=>by
  have:∀ l:List Nat,(l.map fun a=>cnt [] a).sum = 0:=by intro l;induction l with|nil=>rfl|cons a l ih=>rw [List.map_cons,List.sum_cons,ih];rfl
  rw [this];rfl
 | x :: L,h=>by
  have ih:=c69 n L (fun l hl=>h l (by simp [hl]))
  have hx:=h x (by simp)
  have e:∀ a,cnt (x :: L) a = cnt L a + if x.1 = a then 1 else 0:=fun a=>by
   unfold cnt;rw [List.map_cons,List.count_cons];simp [beq_iff_eq]
  have s:∀ (l:List Nat),l.Nodup → (l.map fun a=>cnt (x :: L) a).sum = (l.map fun a=>cnt L a).sum + if x.1 ∈ l then 1 else 0:=by
   intro l
   induction l with
   | nil=>intro _;rfl
   | cons a l ih2=>
    intro hn
    rw [List.nodup_cons] at hn
    simp only [List.map_cons,List.sum_cons,e a,ih2 hn.2,List.mem_cons]
    by_cases h1:x.1 = a
    ·subst h1;simp [hn.1];omega
    ·simp [h1];omega
  rw [s _ List.nodup_range,if_pos (by simpa using hx),List.length_cons,ih]
theorem FoOk.node {nodes:List Nd} {i k j:Nat} {fo:List (List (Nat × Nat))} {L:List (Nat × Nat)} (h:FoOk nodes i k fo) (hL:fo[j]? = some L) (hi:i ≤ nodes.length):∀ l ∈ L,l.1 < nodes.length:=by
 intro l hl
 have hc:=h.num j L hL l.1
 have hp:0 < cnt L l.1:=by unfold cnt;exact List.count_pos_iff.2 (List.mem_map.2 ⟨l,hl,rfl⟩)
 by_cases h1:l.1 < i
 ·omega
 ·rw [if_neg h1] at hc
  by_cases h2:l.1 = i
  ·rw [if_pos h2] at hc
   cases hx:nodes[i]? with
   | none=>simp [a32,hx] at hc;omega
   | some x=>have:=(List.getElem?_eq_some_iff.1 hx).1;omega
  ·rw [if_neg h2] at hc;omega
theorem FoOk.total {nodes:List Nd} {i k j:Nat} {fo:List (List (Nat × Nat))} {L:List (Nat × Nat)} (h:FoOk nodes i k fo) (hL:fo[j]? = some L) (hn:nodes.length ≤ 14) (hx:∀ y ∈ nodes,y.ins.length ≤ 16) (hi:i ≤ nodes.length:=by omega):L.length ≤ 224:=by
 have hb:∀ a,cnt L a ≤ 16:=by
  intro a
  have hins:(a32 nodes a).length ≤ 16:=by
   unfold a32
   cases hx':nodes[a]? with
   | none=>simp
   | some x=>exact hx x (List.mem_of_getElem? hx')
  rw [h.num j L hL a]
  split
  ·exact Nat.le_trans List.count_le_length hins
  split
  ·rename_i e;subst e
   refine Nat.le_trans List.count_le_length ?_
   rw [List.length_take];omega
  ·omega
 rw [c69 nodes.length L (h.node hL hi)]
 have s:∀ l:List Nat,(l.map fun a=>cnt L a).sum ≤ 16 * l.length:=by
  intro l
  induction l with
  | nil=>simp
  | cons a l ih=>have:=hb a;simp only [List.map_cons,List.sum_cons,List.length_cons];omega
 have:=s (List.range nodes.length)
 rw [List.length_range] at this
 omega
theorem Cir.wf.insl {c:Cir} (h:c.wf) {x:Nd} (hx:x ∈ c.nodes):x.ins.length ≤ 16:=by
 have k14:=h.kind x hx
 have hhi:=h.hi x hx
 have:a1o x.kind ≤ 16:=by
  have hk:x.kind = 0 ∨ x.kind = 1 ∨ x.kind = 2 ∨ x.kind = 3 ∨ x.kind = 4 ∨ x.kind = 5 ∨ x.kind = 6 ∨ x.kind = 7 ∨ x.kind = 8 ∨ x.kind = 9 ∨ x.kind = 10 ∨ x.kind = 11 ∨ x.kind = 12 ∨ x.kind = 13 ∨ x.kind = 14:=by omega
  rcases hk with e|e|e|e|e|e|e|e|e|e|e|e|e|e|e<;>rw [e]<;>decide
 omega
end Go.Pc
/- PcKahn: the order in which nodes become ready. Plain. -/
namespace Go.Pc
open Go.Ax
def b6w (nodes:List Nd) (ready:List Nat) (done a:Nat):Nat:=((a32 nodes a).filter fun m=>decide (m ∉ ready.take done)).length
structure Kahn (nodes:List Nd) (left ready:List Nat) (done:Nat) (L:List (Nat × Nat)):Prop where
 ll:left.length = nodes.length
 rn:∀ r ∈ ready,r < nodes.length
 nd:ready.Nodup
 dle:done ≤ ready.length
 eq:∀ a,a < nodes.length → a1v (a1h nodes a) = true → left.getD a 0 + cnt L a = b6w nodes ready done a
 nc:∀ a,a < nodes.length → a1v (a1h nodes a) = false → left.getD a 0 = 0
 zero:∀ a,a < nodes.length → (a ∈ ready ↔ left.getD a 0 = 0)
def b06 (nodes:List Nd) (a:Nat):Nat:=if a1v (a1h nodes a) then (a32 nodes a).length else 0
def a30 (nodes:List Nd) (i:Nat):List Nat:=(List.range nodes.length).map fun j=>if j < i then b06 nodes j else 0
def a3j (nodes:List Nd) (i:Nat):List Nat:=(List.range i).filter fun j=>decide (b06 nodes j = 0)
theorem b7g (nodes:List Nd) (i:Nat):a3j nodes (i + 1) = if b06 nodes i = 0 then a3j nodes i ++ [i] else a3j nodes i:=by
 unfold a3j
 rw [List.range_succ,List.filter_append]
 by_cases h:b06 nodes i = 0<;>simp [h]
theorem c2j (nodes:List Nd) (i:Nat):(a3j nodes i).length ≤ i:=Nat.le_trans (List.length_filter_le _ _) (by simp)
theorem b9v (nodes:List Nd):a30 nodes 0 = List.replicate nodes.length 0:=by
 apply List.ext_getElem?
 intro j
 simp only [a30,List.getElem?_map,List.getElem?_replicate,Nat.not_lt_zero,if_false]
 by_cases h:j < nodes.length
 ·rw [List.getElem?_range h];simp [h]
 ·rw [List.getElem?_eq_none (by simpa using h)];simp [h]
theorem a5d {nodes:List Nd} {i j:Nat} (h:j < nodes.length):(a30 nodes i)[j]? = some (if j < i then b06 nodes j else 0):=by
 simp [a30,List.getElem?_range h]
theorem b2i {nodes:List Nd} {i:Nat} (h:i < nodes.length):(a30 nodes i).set i (b06 nodes i) = a30 nodes (i + 1):=by
 apply List.ext_getElem?
 intro j
 rw [List.getElem?_set]
 by_cases hj:j < nodes.length
 ·rw [a5d hj,a5d hj]
  by_cases hij:i = j
  ·subst hij;simp [a30,h]
  ·by_cases h2:j < i
   ·simp [hij,h2,show j < i + 1 by omega]
   ·simp [hij,h2,show ¬ j < i + 1 by omega]
 ·have e:∀ i,(a30 nodes i)[j]? = none:=fun i=>List.getElem?_eq_none (by simp [a30];omega)
  rw [e,e]
  have:i ≠ j:=by omega
  simp [this]
theorem b9w {nodes:List Nd} {i:Nat} (h:i < nodes.length) (h0:b06 nodes i = 0):a30 nodes i = a30 nodes (i + 1):=by
 rw [← b2i h]
 apply List.ext_getElem?
 intro j
 rw [List.getElem?_set]
 by_cases hij:i = j
 ·subst hij;rw [a5d h];simp [a30,h,h0]
 ·simp [hij]
theorem Kahn.start (nodes:List Nd):Kahn nodes (a30 nodes nodes.length) (a3j nodes nodes.length) 0 []:=by
 have hg:∀ a,a < nodes.length → (a30 nodes nodes.length).getD a 0 = b06 nodes a:=by
  intro a ha
  rw [List.getD,a5d ha];simp [ha]
 refine ⟨by simp [a30],?_,?_,Nat.zero_le _,?_,?_,?_⟩
 ·intro r hr
  unfold a3j at hr
  rw [List.mem_filter] at hr
  simpa using hr.1
 ·exact List.nodup_range.filter _
 ·intro a ha hc
  rw [hg a ha]
  have e:∀ l:List Nat,(l.filter fun m=>decide (m ∉ ([]:List Nat))) = l:=fun l=>List.filter_eq_self.2 (fun m _=>by simp)
  simp only [b06,hc,if_true,b6w,cnt,List.map_nil,List.count_nil,List.take_zero,Nat.add_zero]
  exact (congrArg List.length (e _)).symm
 ·intro a ha hc
  rw [hg a ha];simp [b06,hc]
 ·intro a ha
  rw [hg a ha]
  unfold a3j
  rw [List.mem_filter]
  simp [ha]
section
variable {nodes:List Nd} {left ready:List Nat} {done:Nat} {L:List (Nat × Nat)}
theorem b6i (L:List (Nat × Nat)) (a p b:Nat):cnt (L ++ [(a,p)]) b = cnt L b + if a = b then 1 else 0:=by
 unfold cnt
 rw [List.map_append,List.count_append]
 by_cases hia:a = b
 ·subst hia;simp
 ·simp [hia,List.count_cons]
theorem Kahn.skip (h:Kahn nodes left ready done L) {a p:Nat} (hc:a1v (a1h nodes a) = false):Kahn nodes left ready done (L ++ [(a,p)]):=by
 refine ⟨h.ll,h.rn,h.nd,h.dle,?_,h.nc,h.zero⟩
 intro b hb hcb
 have:a ≠ b:=fun e=>by subst e;rw [hc] at hcb;cases hcb
 rw [b6i,if_neg this,Nat.add_zero]
 exact h.eq b hb hcb
theorem d09 {ready:List Nat} {done x a:Nat} (h:done ≤ ready.length):b6w nodes (ready ++ [x]) done a = b6w nodes ready done a:=by
 unfold b6w;rw [List.take_append_of_le_length h]
theorem Kahn.pos (h:Kahn nodes left ready done L) {a p:Nat} (ha:a < nodes.length) (hc:a1v (a1h nodes a) = true) (hcnt:cnt (L ++ [(a,p)]) a ≤ b6w nodes ready done a):0 < left.getD a 0:=by
 have:=h.eq a ha hc
 rw [b6i,if_pos rfl] at hcnt
 omega
theorem Kahn.dec (h:Kahn nodes left ready done L) {a p:Nat} (ha:a < nodes.length) (hc:a1v (a1h nodes a) = true) (hcnt:cnt (L ++ [(a,p)]) a ≤ b6w nodes ready done a) :
 Kahn nodes (left.set a (left.getD a 0 - 1)) (if left.getD a 0 - 1 = 0 then ready ++ [a] else ready) done (L ++ [(a,p)]):=by
 have hpos:=h.pos ha hc hcnt
 have hal:a < left.length:=by rw [h.ll];exact ha
 have hget:∀ b,(left.set a (left.getD a 0 - 1)).getD b 0 = if a = b then left.getD a 0 - 1 else left.getD b 0:=by
  intro b
  simp only [List.getD_eq_getElem?_getD,List.getElem?_set]
  by_cases hab:a = b
  ·subst hab;simp [hal]
  ·simp [hab]
 have hna:a ∉ ready:=fun hm=>by have:=(h.zero a ha).1 hm;omega
 have hpe:∀ b,b6w nodes (if left.getD a 0 - 1 = 0 then ready ++ [a] else ready) done b = b6w nodes ready done b:=by
  intro b;split
  ·exact d09 h.dle
  ·rfl
 refine ⟨by rw [List.length_set,h.ll],?_,?_,?_,?_,?_,?_⟩
 ·intro r hr
  split at hr
  ·simp only [List.mem_append,List.mem_singleton] at hr
   rcases hr with hr|rfl
   ·exact h.rn r hr
   ·exact ha
  ·exact h.rn r hr
 ·split
  ·rw [List.nodup_append]
   refine ⟨h.nd,by simp,?_⟩
   intro x hx y hy
   simp only [List.mem_singleton] at hy
   subst hy
   exact fun e=>hna (e ▸ hx)
  ·exact h.nd
 ·split
  ·have:=h.dle;simp;omega
  ·exact h.dle
 ·intro b hb hcb
  rw [hget,hpe,b6i]
  have:=h.eq b hb hcb
  by_cases hab:a = b
  ·subst hab;rw [if_pos rfl,if_pos rfl];omega
  ·rw [if_neg hab,if_neg hab,Nat.add_zero];exact this
 ·intro b hb hcb
  have:a ≠ b:=fun e=>by subst e;rw [hc] at hcb;cases hcb
  rw [hget,if_neg this]
  exact h.nc b hb hcb
 ·intro b hb
  rw [hget]
  by_cases hab:a = b
  ·subst hab
   rw [if_pos rfl]
   split
   ·rename_i e;exact ⟨fun _=>e,fun _=>by simp⟩
   ·rename_i e;exact ⟨fun hm=>absurd hm hna,fun e'=>absurd e' e⟩
  ·rw [if_neg hab]
   rw [← h.zero b hb]
   split
   ·simp [Ne.symm hab]
   ·rfl
theorem a60 (l:List Nat) (S:List Nat) (x:Nat) (hx:x ∉ S):(l.filter fun m=>decide (m ∉ S)).length = (l.filter fun m=>decide (m ∉ S ++ [x])).length + l.count x:=by
 induction l with
 | nil=>rfl
 | cons a l ih=>
  simp only [List.filter_cons,List.count_cons]
  by_cases hax:a = x
  ·subst hax
   simp [hx] at ih ⊢
   omega
  ·by_cases haS:a ∈ S
   ·simp [haS,hax] at ih ⊢;omega
   ·simp [haS,hax] at ih ⊢;omega
theorem Kahn.next (h:Kahn nodes left ready done L) {x:Nat} (hx:ready[done]? = some x) (hL:∀ a,a < nodes.length → cnt L a = (a32 nodes a).count x):Kahn nodes left ready (done + 1) []:=by
 have hdl:=(List.getElem?_eq_some_iff.1 hx).1
 have ht:=a14 hx
 have hnx:x ∉ ready.take done:=by
  intro hm
  obtain ⟨i,hi⟩:=List.mem_iff_getElem?.1 hm
  rw [List.getElem?_take] at hi
  split at hi
  case isFalse=>cases hi
  have:=(List.getElem?_inj (by omega) h.nd).1 (hi.trans hx.symm)
  omega
 refine ⟨h.ll,h.rn,h.nd,by omega,?_,h.nc,h.zero⟩
 intro a ha hc
 have:=h.eq a ha hc
 rw [hL a ha] at this
 unfold b6w at this ⊢
 rw [ht]
 rw [a60 _ _ x hnx] at this
 simp only [cnt,List.map_nil,List.count_nil]
 omega
theorem d5v {ready:List Nat} {done x a:Nat} (nd:ready.Nodup) (hx:ready[done]? = some x):(a32 nodes a).count x ≤ b6w nodes ready done a:=by
 have hdl:=(List.getElem?_eq_some_iff.1 hx).1
 have hnx:x ∉ ready.take done:=by
  intro hm
  obtain ⟨i,hi⟩:=List.mem_iff_getElem?.1 hm
  rw [List.getElem?_take] at hi
  split at hi
  case isFalse=>cases hi
  have:=(List.getElem?_inj (by omega) nd).1 (hi.trans hx.symm)
  omega
 unfold b6w
 rw [a60 _ _ x hnx]
 omega
theorem Kahn.all (h:Kahn nodes left ready ready.length []) (hac:∀ (i:Nat) (x:Nd),nodes[i]? = some x → a1v x.kind = true → ∀ m ∈ x.ins,m < i):nodes.length ≤ ready.length:=by
 have key:∀ n a,a ≤ n → a < nodes.length → a ∈ ready:=by
  intro n
  induction n with
  | zero=>
   intro a han ha
   obtain rfl:a = 0:=by omega
   rw [h.zero 0 ha]
   cases hc:a1v (a1h nodes 0) with
   | false=>exact h.nc 0 ha hc
   | true=>
    obtain ⟨x,hx⟩:∃ x,nodes[0]? = some x:=⟨_,List.getElem?_eq_getElem ha⟩
    have he:=h.eq 0 ha hc
    have hk:a1h nodes 0 = x.kind:=by simp [a1h,hx]
    rw [hk] at hc
    have hi:a32 nodes 0 = []:=by
     simp only [a32,hx,Option.map_some,Option.getD_some]
     cases hins:x.ins with
     | nil=>rfl
     | cons m r=>have:=hac 0 x hx hc m (by simp [hins]);omega
    have:b6w nodes ready ready.length 0 = 0:=by simp [b6w,hi]
    omega
  | succ n ih=>
   intro a han ha
   rw [h.zero a ha]
   cases hc:a1v (a1h nodes a) with
   | false=>exact h.nc a ha hc
   | true=>
    obtain ⟨x,hx⟩:∃ x,nodes[a]? = some x:=⟨_,List.getElem?_eq_getElem ha⟩
    have he:=h.eq a ha hc
    have hk:a1h nodes a = x.kind:=by simp [a1h,hx]
    rw [hk] at hc
    have hi:a32 nodes a = x.ins:=a2e hx
    have:b6w nodes ready ready.length a = 0:=by
     unfold b6w
     rw [hi,List.take_length,List.length_eq_zero_iff,List.filter_eq_nil_iff]
     intro m hm
     have h1:=hac a x hx hc m hm
     have h2:=ih m (by omega) (by omega)
     simp [h2]
    omega
 have:=b2h (l:=List.range nodes.length) (T:=ready) List.nodup_range (fun a ha=>key a a (Nat.le_refl _) (by simpa using ha))
 simpa using this
theorem Kahn.bound (h:Kahn nodes left ready done L):ready.length ≤ nodes.length:=by
 have:=b2h h.nd (T:=List.range nodes.length) (fun a ha=>by simpa using h.rn a ha)
 simpa using this
end
end Go.Pc
/- PcPerm: exchanging neighbours. Plain. -/
namespace Go.Pc
theorem c4h {l:List Nat} {j x y:Nat} (hj:l[j + 1]? = some x) (hi:l[j]? = some y):((l.set (j + 1) y).set j x).Perm l:=by
 induction l generalizing j with
 | nil=>simp at hj
 | cons a l ih=>
  cases j with
  | zero=>
   cases l with
   | nil=>simp at hj
   | cons b l=>
    simp only [List.getElem?_cons_succ,List.getElem?_cons_zero,Option.some.injEq] at hj hi
    subst hj;subst hi
    exact List.Perm.swap ..
  | succ j=>
   simp only [List.getElem?_cons_succ] at hj hi
   simp only [List.set_cons_succ]
   exact (ih hj hi).cons a
def d3z (a b:Nat):Int:=if a < b then -1 else if b < a then 1 else 0
end Go.Pc
/- PcReach: which nets a net depends on; faults that are valid. Plain. -/
namespace Go.Pc
open Go.Ax
inductive DepOn (nodes:List Nd):Nat → Nat → Prop
 | refl (a:Nat):DepOn nodes a a
 | step {a m b:Nat} (hk:a1h nodes a ≠ 14) (hm:m ∈ a32 nodes a) (h:DepOn nodes m b):DepOn nodes a b
theorem DepOn.cases {nodes:List Nd} {a b:Nat} (h:DepOn nodes a b):a = b ∨ (a1h nodes a ≠ 14 ∧ ∃ m,m ∈ a32 nodes a ∧ DepOn nodes m b):=by
 cases h with
 | refl=>exact .inl rfl
 | step hk hm h=>exact .inr ⟨hk,_,hm,h⟩
theorem DepOn.not_dff {nodes:List Nd} {a b:Nat} (hab:a ≠ b) (hk:a1h nodes a = 14):¬ DepOn nodes a b:=fun h=>by
 rcases h.cases with e|⟨h1,_⟩
 ·exact hab e
 ·exact h1 hk
theorem DepOn.snoc {nodes:List Nd} {a b m:Nat} (h:DepOn nodes a b) (hk:a1h nodes b ≠ 14) (hm:m ∈ a32 nodes b):DepOn nodes a m:=by
 induction h with
 | refl a=>exact .step hk hm (.refl _)
 | step hk' hm' _ ih=>exact .step hk' hm' (ih hk hm)
theorem Cir.wf.comb_of {c:Cir} (h:c.wf) {x:Nd} (hx:x ∈ c.nodes) (hp:0 < x.ins.length) (h14:x.kind ≠ 14):a1v x.kind = true:=by
 have h1:=h.kind x hx
 have h2:=h.hi x hx
 have h3:x.kind ≠ 0:=by
  intro e;rw [e] at h2
  have:a1o 0 = 0:=rfl
  omega
 simp [a1v];omega
structure FltOk (nodes:List Nd) (f:Flt):Prop where
 model:f.model = 0 ∨ f.model = 2 ∨ f.model = 3
 node:f.node < nodes.length
 pin:-1 ≤ f.pin ∧ f.pin < (a32 nodes f.node).length
 value:f.value ≤ 1
 other:f.other < nodes.length
 stuck:f.model = 0 → f.other = 0
 bridge:f.model ≠ 0 → f.pin = -1 ∧ f.node ≠ f.other ∧ (f.model = 2 → f.node ≤ f.other) ∧ (f.model = 3 → f.value = 0) ∧ a1h nodes f.node ≠ 12 ∧ a1h nodes f.other ≠ 12 ∧ ¬ DepOn nodes f.node f.other ∧ ¬ DepOn nodes f.other f.node
end Go.Pc
/- PcRun: the simulation, step by step. Plain. -/
namespace Go.Pc
open Go.Ax
section
variable {α:Type} {A:Alg α} {nodes:List Nd} {h:Hk α}
theorem c5h {n:Nat} {nets:List α}:∀ {l:List Nat} {p i m:Nat},l[i]? = some m → (a74 A h n nets p l)[i]? = some (h.pin n (p + i) (nets.getD m A.z))
 | [],p,i,m,hm=>by simp at hm
 | a :: l,p,0,m,hm=>by simp at hm;subst hm;rfl
 | a :: l,p,i + 1,m,hm=>by
  simp only [List.getElem?_cons_succ] at hm
  simp only [a74,List.getElem?_cons_succ,c5h (p:=p + 1) hm]
  rw [show p + 1 + i = p + (i + 1) by omega]
theorem c5g {n:Nat} {nets:List α}:∀ (l:List Nat) (p:Nat),(a74 A h n nets p l).length = l.length
 | [],_=>rfl
 | a :: l,p=>by simp [a74,c5g l]
theorem b0d {nets:List α} {n:Nat}:(a1u A nodes h nets n).length = (a32 nodes n).length:=c5g _ _
theorem c2k {nets:List α} {n i m:Nat} {v:α} (hm:(a32 nodes n)[i]? = some m) (hv:nets[m]? = some v):(a1u A nodes h nets n).take (i + 1) = (a1u A nodes h nets n).take i ++ [h.pin n i v]:=by
 have:=c5h (A:=A) (h:=h) (n:=n) (nets:=nets) (p:=0) hm
 rw [Nat.zero_add,List.getD,hv] at this
 exact a14 this
theorem b4n:∀ {is:List Nat} {vs:List α} {nets:List α} {a:Nat} {v:α},is.length = vs.length → a64 nets (is ++ [a]) (vs ++ [v]) = (a64 nets is vs).set a v
 | [],[],nets,a,v,_=>rfl
 | [],_ :: _,_,_,_,h=>by simp at h
 | _ :: _,[],_,_,_,h=>by simp at h
 | i :: is,w :: vs,nets,a,v,h=>by simp only [List.cons_append,a64];exact b4n (by simpa using h)
theorem a7w:∀ (is:List Nat) (vs:List α) (nets:List α),(a64 nets is vs).length = nets.length
 | [],vs,nets=>by cases vs<;>rfl
 | i :: is,[],nets=>rfl
 | i :: is,v :: vs,nets=>by simp [a64,a7w is vs]
theorem b4m {is:List Nat} {vs nets:List α} {i a:Nat} {v:α} (h1:is[i]? = some a) (h2:vs[i]? = some v):a64 nets (is.take (i + 1)) (vs.take (i + 1)) = (a64 nets (is.take i) (vs.take i)).set a v:=by
 rw [a14 h1,a14 h2]
 have l1:=(List.getElem?_eq_some_iff.1 h1).1
 have l2:=(List.getElem?_eq_some_iff.1 h2).1
 exact b4n (by rw [List.length_take,List.length_take];omega)
theorem c4l (nets:List α) (n:Nat):(stepG A nodes h nets n).length = nets.length:=by unfold stepG;simp
theorem c1p (l:List Nat) (nets:List α):(l.foldl (stepG A nodes h) nets).length = nets.length:=by
 induction l generalizing nets with
 | nil=>rfl
 | cons a l ih=>rw [List.foldl_cons,ih,c4l]
theorem c5w (ord ins sts:List Nat) (vi vs:List α):(c2v A nodes h ord ins sts vi vs).length = nodes.length:=by
 unfold c2v;rw [c1p,a7w,a7w];simp
theorem c76 {l:List Nat} {nets:List α} {i n:Nat} (hn:l[i]? = some n):(l.take (i + 1)).foldl (stepG A nodes h) nets = stepG A nodes h ((l.take i).foldl (stepG A nodes h) nets) n:=by
 rw [a14 hn,List.foldl_append];rfl
end
end Go.Pc
/- PcLev: levels of nodes; orders in which a3r node stands behind what it d04. Plain. -/
namespace Go.Pc
open Go.Ax
structure Lev (nodes:List Nd) (lv ready:List Nat) (done:Nat) (L:List (Nat × Nat)):Prop where
 old:∀ a,a < nodes.length → a1v (a1h nodes a) = true → ∀ m ∈ a32 nodes a,m ∈ ready.take done → lv.getD m 0 < lv.getD a 0
 now:∀ l ∈ L,a1v (a1h nodes l.1) = true → ∀ x,ready[done]? = some x → lv.getD x 0 < lv.getD l.1 0
theorem Lev.start (nodes:List Nd) (lv ready:List Nat):Lev nodes lv ready 0 []:=⟨fun a _ _ m _ hm=>by simp at hm,fun l hl=>by simp at hl⟩
section
variable {nodes:List Nd} {lv left ready:List Nat} {done:Nat} {L:List (Nat × Nat)}
theorem Lev.skip (h:Lev nodes lv ready done L) {a p:Nat} (hc:a1v (a1h nodes a) = false):Lev nodes lv ready done (L ++ [(a,p)]):=by
 refine ⟨h.old,fun l hl hcl=>?_⟩
 rcases List.mem_append.1 hl with hl|hl
 ·exact h.now l hl hcl
 ·rw [List.mem_singleton.1 hl] at hcl;rw [hc] at hcl;cases hcl
theorem b1n (lv:List Nat) (a v b:Nat) (ha:a < lv.length):(lv.set a v).getD b 0 = if a = b then v else lv.getD b 0:=by
 simp only [List.getD_eq_getElem?_getD,List.getElem?_set]
 by_cases hab:a = b
 ·subst hab;simp [ha]
 ·simp [hab]
theorem Lev.dec (h:Lev nodes lv ready done L) {a p x va vx:Nat} (hx:ready[done]? = some x) (hna:a ∉ ready) (hva:lv[a]? = some va) (hvx:lv[x]? = some vx) {ready':List Nat} (hr:ready' = ready ∨ ready' = ready ++ [a]) :
 Lev nodes (lv.set a (max va (vx + 1))) ready' done (L ++ [(a,p)]):=by
 have hal:=(List.getElem?_eq_some_iff.1 hva).1
 have hdl:=(List.getElem?_eq_some_iff.1 hx).1
 have hxr:x ∈ ready:=List.mem_of_getElem? hx
 have hax:a ≠ x:=fun e=>hna (e ▸ hxr)
 have ea:lv.getD a 0 = va:=by rw [List.getD,hva];rfl
 have ex:lv.getD x 0 = vx:=by rw [List.getD,hvx];rfl
 have ht:ready'.take done = ready.take done:=by
  rcases hr with rfl|rfl
  ·rfl
  ·exact List.take_append_of_le_length (by omega)
 have hx':ready'[done]? = some x:=by
  rcases hr with rfl|rfl
  ·exact hx
  ·rw [List.getElem?_append_left hdl];exact hx
 have up:∀ b,lv.getD b 0 ≤ (lv.set a (max va (vx + 1))).getD b 0:=by
  intro b;rw [b1n _ _ _ _ hal];split
  ·rename_i e;subst e;rw [ea];exact Nat.le_max_left _ _
  ·exact Nat.le_refl _
 refine ⟨?_,?_⟩
 ·intro b hb hcb m hm hmr
  rw [ht] at hmr
  have hma:a ≠ m:=fun e=>hna (e ▸ List.mem_of_mem_take hmr)
  rw [b1n _ _ _ m hal,if_neg hma]
  exact Nat.lt_of_lt_of_le (h.old b hb hcb m hm hmr) (up b)
 ·intro l hl hcl y hy
  rw [hx'] at hy;cases hy
  rw [b1n _ _ _ x hal,if_neg hax]
  rcases List.mem_append.1 hl with hl|hl
  ·exact Nat.lt_of_lt_of_le (h.now l hl hcl x hx) (up _)
  ·rw [List.mem_singleton.1 hl,b1n _ _ _ _ hal,if_pos rfl,ex]
   exact Nat.lt_of_lt_of_le (Nat.lt_succ_self _) (Nat.le_max_right _ _)
theorem Lev.next (h:Lev nodes lv ready done L) {x:Nat} (hx:ready[done]? = some x) (hL:∀ a,a < nodes.length → cnt L a = (a32 nodes a).count x):Lev nodes lv ready (done + 1) []:=by
 refine ⟨?_,fun l hl=>by simp at hl⟩
 intro a ha hc m hm hmr
 rw [a14 hx] at hmr
 rcases List.mem_append.1 hmr with hmr|hmr
 ·exact h.old a ha hc m hm hmr
 ·rw [List.mem_singleton.1 hmr] at hm ⊢
  have h1:=hL a ha
  have h2:0 < (a32 nodes a).count x:=List.count_pos_iff.2 hm
  rw [← h1] at h2
  unfold Pc.cnt at h2
  obtain ⟨l,hl,rfl⟩:=List.mem_map.1 (List.count_pos_iff.1 h2)
  exact h.now l hl hc x hx
def Rises (nodes:List Nd) (lv:List Nat):Prop:=∀ a,a < nodes.length → a1v (a1h nodes a) = true → ∀ m ∈ a32 nodes a,m < nodes.length → lv.getD m 0 < lv.getD a 0
theorem Lev.all (h:Lev nodes lv ready ready.length []) (hk:Kahn nodes left ready ready.length []) (hall:nodes.length ≤ ready.length):Rises nodes lv:=by
 intro a ha hc m hm hmn
 refine h.old a ha hc m hm ?_
 rw [List.take_length]
 by_cases hmr:m ∈ ready
 ·exact hmr
 ·have hs:=b2h (l:=m :: ready) (T:=List.range nodes.length) (List.nodup_cons.2 ⟨hmr,hk.nd⟩) (fun b hb=>by
   rcases List.mem_cons.1 hb with rfl|hb
   ·simpa using hmn
   ·simpa using hk.rn b hb)
  simp at hs;omega
end
def e44 (nodes:List Nd) (ord:List Nat):Prop:=∀ (i n:Nat),ord[i]? = some n → a1v (a1h nodes n) = true → ∀ m ∈ a32 nodes n,m ∈ ord.take i
theorem Rises.topo {nodes:List Nd} {lv ord:List Nat} (h:Rises nodes lv) (hp:ord.Perm (List.range nodes.length)) (hs:ord.Pairwise fun x y=>lv.getD x 0 ≤ lv.getD y 0) (hin:∀ n,n < nodes.length → ∀ m ∈ a32 nodes n,m < nodes.length):e44 nodes ord:=by
 intro i n hi hc m hm
 have hn:n < nodes.length:=by have:=hp.mem_iff.1 (List.mem_of_getElem? hi);simpa using this
 have hmn:=hin n hn m hm
 obtain ⟨j,hj⟩:=List.mem_iff_getElem?.1 (hp.mem_iff.2 (List.mem_range.2 hmn))
 have hlt:=h n hn hc m hm hmn
 have hil:=(List.getElem?_eq_some_iff.1 hi).1
 have hjl:=(List.getElem?_eq_some_iff.1 hj).1
 by_cases hji:j < i
 ·exact List.mem_iff_getElem?.2 ⟨j,by rw [List.getElem?_take,if_pos hji];exact hj⟩
 ·exfalso
  by_cases hij:i = j
  ·subst hij;rw [hi] at hj;cases hj;omega
  ·have:=List.pairwise_iff_getElem.1 hs i j hil hjl (by omega)
   rw [(List.getElem?_eq_some_iff.1 hi).2,(List.getElem?_eq_some_iff.1 hj).2] at this
   omega
theorem Cir.wf.inAt {c:Cir} (h:c.wf):∀ n,n < c.nodes.length → ∀ m ∈ a32 c.nodes n,m < c.nodes.length:=by
 intro n hn m hm
 obtain ⟨x,hx⟩:∃ x,c.nodes[n]? = some x:=⟨_,List.getElem?_eq_getElem hn⟩
 rw [a2e hx] at hm
 exact h.ins x (List.mem_of_getElem? hx) m hm
/-! ### insertion -/
def SortJ (key:Nat → Nat) (d:List Nat) (i j:Nat):Prop:=∀ p q x y,p < q → q ≤ i → q ≠ j → d[p]? = some x → d[q]? = some y → key x ≤ key y
def SortI (key:Nat → Nat) (d:List Nat) (i:Nat):Prop:=∀ p q x y,p < q → q < i → d[p]? = some x → d[q]? = some y → key x ≤ key y
theorem SortI.start {key:Nat → Nat} {d:List Nat} {i:Nat} (h:SortI key d i):SortJ key d i i:=fun p q x y h1 h2 h3=>h p q x y h1 (by omega)
theorem SortI.one {key:Nat → Nat} {d:List Nat}:SortI key d 1:=fun p q x y h1 h2=>by omega
theorem SortJ.stop {key:Nat → Nat} {d:List Nat} {i j:Nat} (h:SortJ key d i j) (hj:j = 0 ∨ ∃ x y,d[j - 1]? = some x ∧ d[j]? = some y ∧ key x ≤ key y):SortI key d (i + 1):=by
 intro p q x y h1 h2 hx hy
 by_cases hq:q = j
 ·subst hq
  rcases hj with rfl|⟨x',y',h3,h4,h5⟩
  ·omega
  ·rw [hy] at h4;cases h4
   by_cases hp:p = q - 1
   ·subst hp;rw [hx] at h3;cases h3;exact h5
   ·exact Nat.le_trans (h p (q - 1) x x' (by omega) (by omega) (by omega) hx h3) h5
 ·exact h p q x y h1 (by omega) hq hx hy
theorem SortJ.swap {key:Nat → Nat} {d:List Nat} {i j:Nat} (h:SortJ key d i (j + 1)) (hji:j + 1 ≤ i) {x y:Nat} (hx:d[j]? = some x) (hy:d[j + 1]? = some y) (hlt:key y < key x):SortJ key ((d.set (j + 1) x).set j y) i j:=by
 have hjl:=(List.getElem?_eq_some_iff.1 hy).1
 have hg:∀ p,((d.set (j + 1) x).set j y)[p]? = if p = j then some y else if p = j + 1 then some x else d[p]?:=by
  intro p
  rw [List.getElem?_set,List.getElem?_set]
  simp only [List.length_set]
  by_cases h1:j = p
  ·subst h1;simp;omega
  ·by_cases h2:j + 1 = p
   ·subst h2;simp;omega
   ·simp [h1,h2,Ne.symm h1,Ne.symm h2]
 intro p q u v h1 h2 h3 hu hv
 rw [hg] at hu hv
 rw [if_neg h3] at hv
 by_cases hq:q = j + 1
 ·rw [if_pos hq] at hv;cases hv
  by_cases hp:p = j
  ·rw [if_pos hp] at hu;cases hu;omega
  ·rw [if_neg hp,if_neg (by omega)] at hu
   exact h p j u x (by omega) (by omega) (by omega) hu hx
 ·rw [if_neg hq] at hv
  by_cases hp:p = j
  ·rw [if_pos hp] at hu;cases hu
   exact h (j + 1) q y v (by omega) h2 (by omega) hy hv
  ·rw [if_neg hp] at hu
   by_cases hp2:p = j + 1
   ·rw [if_pos hp2] at hu;cases hu
    exact h j q x v (by omega) h2 (by omega) hx hv
   ·rw [if_neg hp2] at hu
    exact h p q u v h1 h2 (by omega) hu hv
theorem SortI.pairwise {key:Nat → Nat} {d:List Nat} (h:SortI key d d.length):d.Pairwise fun x y=>key x ≤ key y:=by
 rw [List.pairwise_iff_getElem]
 intro i j hi hj hij
 exact h i j _ _ hij hj (List.getElem?_eq_getElem hi) (List.getElem?_eq_getElem hj)
end Go.Pc
/- PcLed: what a ledger counts, test by test. Plain. -/
namespace Go.Pc
def a2v (most:Int) (D:Nat → Bool):Nat → Int × Int
 | 0=>(-1,0)
 | t + 1=>if (a2v most D t).2 < most ∧ D t = true then (if (a2v most D t).2 = 0 then (t:Int) else (a2v most D t).1,(a2v most D t).2 + 1) else a2v most D t
theorem b63 (most:Int) (D:Nat → Bool):∀ t,0 ≤ (a2v most D t).2 ∧ (a2v most D t).2 ≤ t
 | 0=>by simp [a2v]
 | t + 1=>by
  have:=b63 most D t
  simp only [a2v]
  split
  ·constructor<;>simp only<;>omega
  ·omega
theorem c6a (most:Int) (D:Nat → Bool):∀ t,((a2v most D t).1 < 0 ↔ (a2v most D t).2 = 0)
 | 0=>by simp [a2v]
 | t + 1=>by
  have h:=c6a most D t
  have h2:=b63 most D t
  simp only [a2v]
  split
  ·split
   ·simp;omega
   ·simp only;constructor
    ·intro h3;rw [h] at h3;omega
    ·intro h3;omega
  ·exact h
theorem b62 {most:Int} {D:Nat → Bool} {t:Nat} (h:(a2v most D t).2 = most):∀ s,a2v most D (t + s) = a2v most D t
 | 0=>rfl
 | s + 1=>by
  have ih:=b62 h s
  have hn:¬ ((a2v most D (t + s)).2 < most ∧ D (t + s) = true):=fun hh=>by have:=hh.1;rw [ih,h] at this;omega
  have e:a2v most D (t + (s + 1)) = a2v most D (t + s):=by
   rw [show t + (s + 1) = (t + s) + 1 by omega]
   simp only [a2v,hn,if_false]
  rw [e,ih]
end Go.Pc
/- PcPack: words that are put together a31 by a31. Plain. -/
namespace Go.Pc
open Go.Ax
theorem b89:∀ (a b:List W) (s:BitVec 64) (x y:W),a.length = b.length → b6z (a ++ [x]) (b ++ [y]) s = b6z a b s ||| ctr x y
 | [],[],s,x,y,_=>rfl
 | [],_ :: _,_,_,_,h=>by simp at h
 | _ :: _,[],_,_,_,h=>by simp at h
 | a :: as,b :: bs,s,x,y,h=>by simp only [List.cons_append,b6z];exact b89 as bs _ x y (by simpa using h)
theorem c7n {a b:List W} {i:Nat} {x y:W} (hx:a[i]? = some x) (hy:b[i]? = some y):b6z (a.take (i + 1)) (b.take (i + 1)) 0 = b6z (a.take i) (b.take i) 0 ||| ctr x y:=by
 have l1:=(List.getElem?_eq_some_iff.1 hx).1
 have l2:=(List.getElem?_eq_some_iff.1 hy).1
 rw [a14 hx,a14 hy,b89]
 rw [List.length_take,List.length_take];omega
theorem c7o:∀ (a b:List W) (s:BitVec 64),a.length ≤ b.length → b6z a (b.take a.length) s = b6z a b s
 | [],b,s,_=>by cases b<;>rfl
 | a :: as,[],s,h=>by simp at h
 | a :: as,b :: bs,s,h=>by simp only [List.length_cons,List.take_succ_cons,b6z];exact c7o as bs _ (by simpa using h)
def a2u:List Nat → Nat → W → W
 | [],_,w=>w
 | v :: r,k,w=>a2u r (k + 1) (b0x w k v)
theorem a9e:∀ (vs:List Nat) (k:Nat) (w:W) (v:Nat),a2u (vs ++ [v]) k w = b0x (a2u vs k w) (k + vs.length) v
 | [],k,w,v=>rfl
 | a :: r,k,w,v=>by simp only [List.cons_append,a2u,a9e r,List.length_cons];congr 1;omega
theorem b5q {vs:List Nat} {i v:Nat} {w:W} (h:vs[i]? = some v):a2u (vs.take (i + 1)) 0 w = b0x (a2u (vs.take i) 0 w) i v:=by
 have l:=(List.getElem?_eq_some_iff.1 h).1
 rw [a14 h,a9e,List.length_take,Nat.zero_add,Nat.min_eq_left (by omega)]
theorem b81 {j n:Nat} (hj:j < 64) (hn:n < 64):(d7q n).getLsbD j = decide (j = n):=by
 have e:BitVec.ofInt 64 1 = 1#64:=by decide
 unfold d7q
 rw [e,BitVec.getLsbD_shiftLeft,BitVec.getLsbD_one]
 simp only [hj,decide_true,Bool.true_and]
 by_cases h:j = n
 ·subst h;simp
 ·by_cases h2:j < n
  ·simp [h2,h]
  ·have:¬ (j - n = 0):=by omega
   simp [h2,h,this]
theorem c30 {j n:Nat} (hj:j < 64) (hn:n < 64) (w:W) (v:Nat):a31 j (b0x w n v) = if j = n then a2m v else a31 j w:=by
 have hf:=a9k hj v
 have f1:(a2j v).one.getLsbD j = (a2m v).1:=congrArg Prod.fst hf
 have f2:(a2j v).zero.getLsbD j = (a2m v).2:=congrArg Prod.snd hf
 unfold a31 b0x
 simp only [BitVec.getLsbD_or,BitVec.getLsbD_and,BitVec.getLsbD_not,b81 hj hn,hj,decide_true,Bool.true_and,f1,f2]
 by_cases h:j = n
 ·simp [h]
 ·simp [h]
theorem a9i {j:Nat} (hj:j < 64):∀ (vs:List Nat) (k:Nat) (w:W),k + vs.length ≤ 64 → a31 j (a2u vs k w) = if k ≤ j ∧ j < k + vs.length then a2m (vs.getD (j - k) 0) else a31 j w
 | [],k,w,_=>by
  have:¬ (k ≤ j ∧ j < k + 0):=by omega
  simp only [List.length_nil,if_neg this];rfl
 | v :: r,k,w,h=>by
  simp only [List.length_cons] at h ⊢
  simp only [a2u]
  rw [a9i hj r (k + 1) _ (by omega),c30 hj (by omega)]
  by_cases h1:j = k
  ·subst h1
   have e1:¬ (j + 1 ≤ j ∧ j < j + 1 + r.length):=by omega
   have e2:j ≤ j ∧ j < j + (r.length + 1):=by omega
   rw [if_neg e1,if_pos rfl,if_pos e2,Nat.sub_self];rfl
  ·by_cases h2:k + 1 ≤ j ∧ j < k + 1 + r.length
   ·have e2:k ≤ j ∧ j < k + (r.length + 1):=by omega
    rw [if_pos h2,if_pos e2,show j - k = (j - (k + 1)) + 1 by omega];rfl
   ·have e2:¬ (k ≤ j ∧ j < k + (r.length + 1)):=by omega
    rw [if_neg h2,if_neg e2,if_neg h1]
end Go.Pc
/- PcEach: many faults, one a31 each. Plain. -/
namespace Go.Pc
open Go.Ax
variable {j:Nat}
theorem d1w (S:Sim) {j:Nat} (hj:j < 64) (f:Flt) (p:Pat) (vi vs:List W) (hi:vi.map (a31 j) = p.ins.map a2m) (hs:vs.map (a31 j) = p.sts.map a2m) (h':Hk W) (hh:HkHom (a31 j) h' (hkF f (a31 j (a1w a1s (S.nets a1s hk0 vi vs) f)))) :
 (b6z (S.seen a1s hk0 (S.nets a1s hk0 vi vs)) (S.seen a1s h' (S.nets a1s h' vi vs)) 0).getLsbD j = S.det f p:=by
 have hφ:=d6d hj
 have hn0:(S.nets a1s hk0 vi vs).map (a31 j) = S.nets b3o hk0 (p.ins.map a2m) (p.sts.map a2m):=by
  rw [← hi,← hs];exact b7n hφ c6u S.ord S.ins S.sts vi vs
 have hf:a31 j (a1w a1s (S.nets a1s hk0 vi vs) f) = a1w b3o (S.nets b3o hk0 (p.ins.map a2m) (p.sts.map a2m)) f:=by
  rw [← hn0];exact c3d hφ _ f
 rw [hf] at hh
 have hn1:(S.nets a1s h' vi vs).map (a31 j) = S.nets b3o (hkF f (a1w b3o (S.nets b3o hk0 (p.ins.map a2m) (p.sts.map a2m)) f)) (p.ins.map a2m) (p.sts.map a2m):=by
  rw [← hi,← hs] at hh ⊢;exact b7n hφ hh S.ord S.ins S.sts vi vs
 rw [b7u hj]
 have s0:(S.seen a1s hk0 (S.nets a1s hk0 vi vs)).map (a31 j) = S.seen b3o hk0 (S.nets b3o hk0 (p.ins.map a2m) (p.sts.map a2m)):=by
  rw [← hn0];exact b77 hφ c6u S.outs S.sts _
 have s1:(S.seen a1s h' (S.nets a1s h' vi vs)).map (a31 j) = S.seen b3o (hkF f (a1w b3o (S.nets b3o hk0 (p.ins.map a2m) (p.sts.map a2m)) f)) (S.nets b3o (hkF f (a1w b3o (S.nets b3o hk0 (p.ins.map a2m) (p.sts.map a2m)) f)) (p.ins.map a2m) (p.sts.map a2m)):=by
  rw [← hn1];exact b77 hφ hh S.outs S.sts _
 rw [s0,s1]
 unfold Sim.det
 simp
end Go.Pc
/- PcCmp: neighbours that are equal are struck. -/
namespace Go.Pc
def ddF:Int → List Int → List Int
 | _,[]=>[]
 | p,x :: l=>if x = p then ddF p l else x :: ddF x l
def dd:List Int → List Int
 | []=>[]
 | x :: l=>x :: ddF x l
theorem d4r {S:List Int} {j:Nat} {x:Int} (h:S[j]? = some x):S.take (j + 1) = S.take j ++ [x]:=by rw [List.take_add_one,h];rfl
end Go.Pc
/- PcCrv: a row of counts, and what it sums up to. -/
namespace Go.Pc
open Go.Ax
def a45 (f:Nat → Int) (T:Nat):List (List AV):=(List.range T).map fun j=>[AV.int .i64 (f j)]
theorem a3x (f:Nat → Int) (T:Nat):(a45 f T).length = T:=by simp [a45]
theorem a6y {f:Nat → Int} {T j:Nat} (h:j < T):(a45 f T)[j]? = some [AV.int .i64 (f j)]:=by
 unfold a45;rw [List.getElem?_map,List.getElem?_range h];rfl
theorem b5k {f:Nat → Int} {T i:Nat} {x:Int}:(a45 f T).set i [AV.int .i64 x] = a45 (fun j=>if j = i then x else f j) T:=by
 apply List.ext_getElem?
 intro j
 by_cases hj:j < T
 ·rw [a6y hj]
  by_cases h:j = i
  ·subst h;rw [List.getElem?_set_self (by rw [a3x];exact hj),if_pos rfl]
  ·rw [List.getElem?_set_ne (Ne.symm h),a6y hj,if_neg h]
 ·rw [List.getElem?_eq_none (by rw [List.length_set,a3x];omega),List.getElem?_eq_none (by rw [a3x];omega)]
theorem a6j (f:Nat → Int) (T:Nat):FlatR (a45 f T):=FlatR.map fun _=>rfl
theorem a6z {f g:Nat → Int} {T:Nat} (h:∀ j,j < T → f j = g j):a45 f T = a45 g T:=by
 unfold a45
 refine List.map_congr_left fun j hj=>?_
 rw [h j (List.mem_range.1 hj)]
theorem b7b (T:Nat):List.replicate T [AV.int .i64 0] = a45 (fun _=>0) T:=by
 unfold a45
 rw [List.map_const',List.length_range]
def eqN (S:List Int) (j:Nat):Int:=(S.countP fun x=>decide (x = (j:Int)):Nat)
def leN (S:List Int) (j:Nat):Int:=(S.countP fun x=>decide (x ≤ (j:Int)):Nat)
theorem d1u (S:List Int) (i j:Nat):eqN (S ++ [(i:Int)]) j = if j = i then eqN S i + 1 else eqN S j:=by
 unfold eqN
 rw [List.countP_append]
 by_cases h:j = i
 ·subst h;rw [if_pos rfl];simp
 ·rw [if_neg h,List.countP_cons_of_neg (by simp;omega)];simp
theorem c7l (S:List Int) (j:Nat):0 ≤ eqN S j ∧ eqN S j ≤ S.length:=by
 unfold eqN
 have:=List.countP_le_length (p:=fun x=>decide (x = (j:Int))) (l:=S)
 omega
theorem c6b (S:List Int) (j:Nat):0 ≤ leN S j ∧ leN S j ≤ S.length:=by
 unfold leN
 have:=List.countP_le_length (p:=fun x=>decide (x ≤ (j:Int))) (l:=S)
 omega
theorem d0m (S:List Int) (j:Nat):leN S (j + 1) = eqN S (j + 1) + leN S j:=by
 unfold leN eqN
 induction S with
 | nil=>rfl
 | cons x l ih=>
  simp only [List.countP_cons,decide_eq_true_eq]
  by_cases h1:x = ((j + 1:Nat):Int)
  ·subst h1
   rw [if_pos (by omega),if_pos rfl,if_neg (by omega)];omega
  ·by_cases h2:x ≤ (j:Int)
   ·rw [if_pos (by omega),if_neg h1,if_pos h2];omega
   ·rw [if_neg (by omega),if_neg h1,if_neg h2];omega
theorem d0l {S:List Int} (h:∀ x ∈ S,0 ≤ x):leN S 0 = eqN S 0:=by
 unfold leN eqN
 congr 1
 refine List.countP_congr fun x hx=>?_
 have:=h x hx
 simp only [decide_eq_true_eq];omega
end Go.Pc
/- PcAny: the elements of a list that are met, each once. -/
namespace Go.Pc
end Go.Pc
/- PcPre: the first detection: of the first tests, of a choice of tests. -/
namespace Go.Pc
def a27 (D:Nat → Bool):Nat → Int
 | 0=>-1
 | t + 1=>if a27 D t < 0 ∧ D t = true then (t:Int) else a27 D t
theorem b7t {most:Int} (D:Nat → Bool):∀ t:Nat,(t:Int) ≤ most → (a2v most D t).1 = a27 D t
 | 0,_=>rfl
 | t + 1,h=>by
  have ih:=b7t (most:=most) D t (by omega)
  have h1:=b63 most D t
  have h2:=c6a most D t
  rw [ih] at h2
  simp only [a2v,a27]
  by_cases hD:D t = true
  ·have hc:(a2v most D t).2 < most:=by omega
   by_cases h0:a27 D t < 0
   ·have hm:0 < most:=by omega
    simp only [hD,h0,h2.1 h0,hm,and_self,if_true]
   ·have h3:¬ (a2v most D t).2 = 0:=fun h=>h0 (h2.2 h)
    simp only [hD,hc,h0,h3,and_self,if_true,false_and,if_false,ih]
  ·simp only [hD,Bool.false_eq_true,and_false,if_false,ih]
theorem d6y (D:Nat → Bool):∀ t,a27 D t = -1 ∨ ∃ k:Nat,a27 D t = k ∧ k < t ∧ D k = true
 | 0=>.inl rfl
 | t + 1=>by
  simp only [a27]
  by_cases h:a27 D t < 0 ∧ D t = true
  ·rw [if_pos h];exact .inr ⟨t,rfl,Nat.lt_succ_self t,h.2⟩
  ·rw [if_neg h]
   rcases d6y D t with h1|⟨k,h1,h2,h3⟩
   ·exact .inl h1
   ·exact .inr ⟨k,h1,by omega,h3⟩
theorem c7a (D:Nat → Bool) (s:Nat):∀ r,a27 D s = if (s:Int) ≤ a27 D (s + r) then -1 else a27 D (s + r)
 | 0=>by
  rcases d6y D s with h|⟨k,h,hk,_⟩
  ·rw [Nat.add_zero,h,if_neg (by omega)]
  ·rw [Nat.add_zero,h,if_neg (by omega)]
 | r + 1=>by
  have ih:=c7a D s r
  have e:a27 D (s + (r + 1)) = if a27 D (s + r) < 0 ∧ D (s + r) = true then ((s + r:Nat):Int) else a27 D (s + r):=rfl
  by_cases h:a27 D (s + r) < 0 ∧ D (s + r) = true
  ·rw [if_pos h] at e
   rw [if_neg (by omega)] at ih
   simp only [e,if_pos (show (s:Int) ≤ ((s + r:Nat):Int) by omega),ih]
   rcases d6y D (s + r) with h1|⟨k,h1,_,_⟩
   ·exact h1
   ·omega
  ·rw [if_neg h] at e
   simp only [e];exact ih
end Go.Pc
