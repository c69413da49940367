/- PcSrt: an array of numbers as rows. -/
import Derived.Test.YtgmenpackpnmaaaGreatDoorAxE
import Derived.Sort.AssemblyPlain
set_option linter.unusedSimpArgs false
set_option linter.unusedVariables false
namespace Go.Pc
open Go.Ax Go.Sort
def rwA (d:Array Int):List (List AV):=d.toList.map fun x=>[AV.int .i64 x]
theorem a1i (d:Array Int):(rwA d).length = d.size:=by simp [rwA]
theorem a0f {d:Array Int} {rest:List (List AV)} {i:Nat} (h:i < d.size):(rwA d ++ rest)[i]? = some [AV.int .i64 d[i]!]:=by
 rw [List.getElem?_append_left (by rw [a1i];exact h)]
 unfold rwA
 rw [List.getElem?_map,Array.getElem?_toList,Array.getElem?_eq_getElem h,getElem!_pos d i h];rfl
theorem b9p {d:Array Int} {rest:List (List AV)} {i:Nat} {x:Int} (h:i < d.size):(rwA d ++ rest).set i [AV.int .i64 x] = rwA (d.setIfInBounds i x) ++ rest:=by
 rw [List.set_append_left _ _ (by rw [a1i];exact h)]
 unfold rwA
 rw [Array.toList_setIfInBounds,List.map_set]
theorem swp_size (d:Array Int) (i j:Nat):(swp d i j).size = d.size:=by simp [swp]
theorem a2c {d:Array Int} {rest:List (List AV)} {i j:Nat} (hi:i < d.size) (hj:j < d.size):((rwA d ++ rest).set i [AV.int .i64 d[j]!]).set j [AV.int .i64 d[i]!] = rwA (swp d i j) ++ rest:=by
 rw [b9p hi,b9p (by simpa using hj)];rfl
theorem d0d (d:Array Int):FlatR (rwA d):=FlatR.map fun _=>rfl
theorem a07 {d:Array Int} {rest:List (List AV)} (h:FlatR rest):FlatR (rwA d ++ rest):=by
 intro r hr
 rcases List.mem_append.1 hr with h'|h'
 ·exact d0d d r h'
 ·exact h r h'
theorem b4w (a j:Nat) (d:Array Int):insInner ltInt a (j + 1) d = if j + 1 > a && ltInt d[j + 1]! d[j]! then insInner ltInt a j (swp d (j + 1) j) else d:=by rfl
theorem b4v (a b i:Nat) (d:Array Int):insOuter ltInt a b i d = if i < b then insOuter ltInt a b (i + 1) (insInner ltInt a i d) else d:=by conv=>lhs;unfold insOuter
theorem a1r {d:Array Int} {rest:List (List AV)} {i j:Nat} {x:Int} (hi:i < d.size) (hj:j < d.size):∃ y,((rwA d ++ rest).set i [AV.int .i64 x])[j]? = some [AV.int .i64 y]:=by
 rw [b9p hi];exact ⟨_,a0f (by simpa using hj)⟩
theorem b0e (hi f r:Nat) (d:Array Int):siftDown ltInt hi f r d = if 2 * r + 1 ≥ hi then d else
 if 2 * r + 1 + 1 < hi && ltInt d[f + (2 * r + 1)]! d[f + (2 * r + 1) + 1]! then
  (if !ltInt d[f + r]! d[f + (2 * r + 2)]! then d else if 2 * r + 2 < hi then siftDown ltInt hi f (2 * r + 2) (swp d (f + r) (f + (2 * r + 2))) else d)
 else (if !ltInt d[f + r]! d[f + (2 * r + 1)]! then d else siftDown ltInt hi f (2 * r + 1) (swp d (f + r) (f + (2 * r + 1)))):=by
 conv=>lhs;unfold siftDown
 simp only [dite_eq_ite]
theorem a8f (p:Int → Bool) (d:Array Int) (j i:Nat):scanUp p d j i = if i ≤ j && p d[i]! then scanUp p d j (i + 1) else i:=by conv=>lhs;unfold scanUp
theorem a58 (p:Int → Bool) (d:Array Int) (i j:Nat):scanDown p d i (j + 1) = if i ≤ j + 1 && p d[j + 1]! then scanDown p d i j else j + 1:=rfl
theorem c39 (a i j:Nat) (d:Array Int):partLoop ltInt a i j d = if scanUp (fun x=>ltInt x d[a]!) d j i > scanDown (fun x=>!ltInt x d[a]!) d (scanUp (fun x=>ltInt x d[a]!) d j i) j then (scanDown (fun x=>!ltInt x d[a]!) d (scanUp (fun x=>ltInt x d[a]!) d j i) j,d) else
 if scanDown (fun x=>!ltInt x d[a]!) d (scanUp (fun x=>ltInt x d[a]!) d j i) j - 1 + 1 - (scanUp (fun x=>ltInt x d[a]!) d j i + 1) < j + 1 - i then partLoop ltInt a (scanUp (fun x=>ltInt x d[a]!) d j i + 1) (scanDown (fun x=>!ltInt x d[a]!) d (scanUp (fun x=>ltInt x d[a]!) d j i) j - 1) (swp d (scanUp (fun x=>ltInt x d[a]!) d j i) (scanDown (fun x=>!ltInt x d[a]!) d (scanUp (fun x=>ltInt x d[a]!) d j i) j)) else (scanDown (fun x=>!ltInt x d[a]!) d (scanUp (fun x=>ltInt x d[a]!) d j i) j,d):=by
 conv=>lhs;unfold partLoop
 simp only [dite_eq_ite]
end Go.Pc
/- PcSrt2: pdqsort's round, in steps. -/
namespace Go.Pc
open Go.Ax Go.Sort
def e3v (d3:Array Int) (a b limit:Nat) (wb wp:Bool) (pivot:Nat):Array Int:=
 if a > 0 && !ltInt d3[a - 1]! d3[pivot]! then
  match partitionEqual ltInt d3 a b pivot with
  | (mid,d4)=>if a < mid ∧ mid ≤ b then pdq ltInt d4 mid b limit wb wp else d4
 else
  match partition ltInt d3 a b pivot with
  | (mid,ap,d4)=>
   if a ≤ mid ∧ mid < b then
    if mid - a < b - mid then pdq ltInt (pdq ltInt d4 a mid limit true true) (mid + 1) b limit (decide (mid - a ≥ (b - a) / 8)) ap
    else pdq ltInt (pdq ltInt d4 (mid + 1) b limit true true) a mid limit (decide (b - mid ≥ (b - a) / 8)) ap
   else d4
def e11 (d2:Array Int) (a b limit:Nat) (wb wp:Bool) (pivot:Nat) (hint:Hint):Array Int:=
 let pi:=if wb && wp && hint = .increasing then partialInsertionSort ltInt d2 a b else (d2,false)
 if pi.2 then pi.1 else e3v pi.1 a b limit wb wp pivot
def e3w (d1:Array Int) (a b limit:Nat) (wb wp:Bool):Array Int:=
 let c:=choosePivot ltInt d1 a b
 if c.2 = .decreasing then e11 (reverseRange d1 a b) a b limit wb wp ((b - 1) - (c.1 - a)) .increasing
 else e11 d1 a b limit wb wp c.1 c.2
theorem e64 (d:Array Int) (a b limit:Nat) (wb wp:Bool):pdq ltInt d a b limit wb wp = if b - a ≤ 12 then insertionSort ltInt d a b else if limit = 0 then heapSort ltInt d a b else
 e3w (if !wb then breakPatterns d a b else d) a b (if !wb then limit - 1 else limit) wb wp:=by
 conv=>lhs;unfold pdq
 unfold e3w e11 e3v
 simp only [dite_eq_ite]
 by_cases h1:b - a ≤ 12
 ·rw [if_pos h1,if_pos h1]
 ·rw [if_neg h1,if_neg h1]
  by_cases h2:limit = 0
  ·rw [if_pos h2,if_pos h2]
  ·rw [if_neg h2,if_neg h2]
   by_cases h3:(choosePivot ltInt (if (!wb) = true then breakPatterns d a b else d) a b).2 = Hint.decreasing
   ·simp only [h3,if_true]
   ·simp only [h3,if_false]
end Go.Pc
/- PcCir: circuits as d0r data: nodes, how they are laid in cells; the small circuits of the statements. Plain definitions. -/
namespace Go.Pc
open Go.Ax
abbrev Rep:=Option (Option Nat)
def a0n (n:Nat):List AV:=[.int .i64 n]
def u8R (n:Nat):List AV:=[.int .u8 n]
structure Nd where
 kind:Nat
 c:Rep
 ins:List Nat
 mem:Nat
 bit:Nat
def Nd.enc (x:Nd):List AV:=[.int .u8 x.kind,sl x.c (x.ins.map a0n),.int .i64 x.mem,.int .i64 x.bit]
structure GX where
 kind:Nat
 i0:Nat
 i1:Nat
 i2:Nat
def GX.enc (g:GX):List AV:=[.int .u8 g.kind,.int .u8 g.i0,.int .u8 g.i1,.int .u8 g.i2]
def GX.ok (g:GX):Prop:=g.kind < 256 ∧ g.i0 < 256 ∧ g.i1 < 256 ∧ g.i2 < 256
structure CX where
 inn:Nat
 dffs:Nat
 d0:Nat
 d1:Nat
 bus:Bool
 mem:Bool
 p0:Nat
 p1:Nat
 p2:Nat
 p3:Nat
 gc:Rep
 gates:List GX
 oc:Rep
 outs:List Nat
def CX.enc (x:CX):List AV:=[.int .u8 x.inn,.int .u8 x.dffs,.int .u8 x.d0,.int .u8 x.d1,.bool x.bus,.bool x.mem,.int .u8 x.p0,.int .u8 x.p1,.int .u8 x.p2,.int .u8 x.p3,sl x.gc (x.gates.map GX.enc),sl x.oc (x.outs.map u8R)]
structure CX.ok (x:CX):Prop where
 inn:x.inn < 256
 dffs:x.dffs < 256
 d0:x.d0 < 256
 d1:x.d1 < 256
 gates:∀ g ∈ x.gates,g.ok
 outs:∀ o ∈ x.outs,o < 256
def d1r (k:Nat):Bool:=k == 12
def a5f (ks:List Nat) (n:Nat):List Nat:=(List.range n).filter fun i=>(ks[i]?).any d1r
def a8v (ks:List Nat):List Nat:=a5f ks ks.length
theorem b9h {ks:List Nat} {n k:Nat} (h:ks[n]? = some k):a5f ks (n + 1) = if k = 12 then a5f ks n ++ [n] else a5f ks n:=by
 unfold a5f
 rw [List.range_succ,List.filter_append]
 by_cases hk:k = 12
 ·subst hk;simp [h,d1r]
 ·simp [h,d1r,hk]
theorem b7c (ks:List Nat) (n:Nat):(a5f ks n).length ≤ n:=by
 unfold a5f
 exact Nat.le_trans (List.length_filter_le _ _) (by simp)
theorem c2v {ks:List Nat} {n x:Nat} (h:x ∈ a5f ks n):x < n ∧ ks[x]? = some 12:=by
 unfold a5f at h
 rw [List.mem_filter] at h
 obtain ⟨h1,h2⟩:=h
 refine ⟨by simpa using h1,?_⟩
 cases hk:ks[x]? with
 | none=>simp [hk] at h2
 | some k=>simp [hk,d1r] at h2;rw [h2]
def a0o (bus:Bool) (g:GX) (ks:List Nat):Nd:=
 let n:=ks.length
 let a:=g.i0 % n
 let b:=g.i1 % n
 let d:=g.i2 % n
 let tris:=a8v ks
 let kind:=if bus then g.kind % 13 else g.kind % 9
 if kind < 6 then (if 128 ≤ g.kind then ⟨5 + kind,some none,[a,b,d],0,0⟩ else ⟨5 + kind,some (some 2),[a,b],0,0⟩)
 else if kind = 6 then ⟨4,some (some 1),[a],0,0⟩
 else if kind = 7 then ⟨11,some (some 3),[a,b,d],0,0⟩
 else if kind = 9 ∨ kind = 10 then ⟨12,some (some 2),[a,b],0,0⟩
 else if 10 < kind ∧ 0 < tris.length then
  (if 1 < tris.length then ⟨13,some none,[tris.getD (g.i0 % tris.length) 0,tris.getD ((g.i0 % tris.length + 1) % tris.length) 0],0,0⟩
   else ⟨13,some (some 1),[tris.getD (g.i0 % tris.length) 0],0,0⟩)
 else if 240 < g.kind then ⟨1 + g.i0 % 2,none,[],0,0⟩
 else ⟨3,some (some 1),[a],0,0⟩
def gN (bus:Bool):List Nat → List GX → List Nd
 | _,[]=>[]
 | ks,g :: r=>a0o bus g ks :: gN bus (ks ++ [(a0o bus g ks).kind]) r
theorem b6f (bus:Bool) (g:GX):∀ (l:List GX) (ks:List Nat),gN bus ks (l ++ [g]) = gN bus ks l ++ [a0o bus g (ks ++ (gN bus ks l).map Nd.kind)]
 | [],ks=>by simp [gN]
 | a :: l,ks=>by simp [gN,b6f bus g l]
theorem a4r (bus:Bool):∀ (l:List GX) (ks:List Nat),(gN bus ks l).length = l.length
 | [],_=>rfl
 | a :: l,ks=>by simp [gN,a4r bus l]
def CX.k (x:CX):Nat:=x.inn % 4 + 1
def CX.d (x:CX):Nat:=x.dffs % 3
def CX.base (x:CX):List Nat:=List.replicate x.k 0 ++ List.replicate x.d 14
def CX.gs (x:CX):List GX:=x.gates.take 8
def CX.n (x:CX):Nat:=x.k + x.d + x.gs.length
def a9d:Nd:=⟨0,none,[],0,0⟩
def a3r (v:Nat):Nd:=⟨14,some (some 1),[v],0,0⟩
def CX.dn (x:CX):List Nd:=([x.d0,x.d1].take x.d).map fun v=>a3r (v % x.n)
def CX.nodes (x:CX):List Nd:=List.replicate x.k a9d ++ x.dn ++ gN x.bus x.base x.gs
def a2y (i:Nat):List UInt8:=[110,UInt8.ofNat (48 + i / 10),UInt8.ofNat (48 + i % 10)]
def a44 (s:List UInt8):List AV:=[.str s]
def CX.names (x:CX):List (List UInt8):=(List.range x.n).map a2y
def CX.outN (x:CX):List Nat:=(x.outs.take 3).map (·% x.n) ++ [x.n - 1]
structure Cir where
 nc:Rep
 nodes:List Nd
 mc:Rep
 names:List (List UInt8)
 oc:Rep
 outs:List Nat
def Cir.enc (c:Cir):List AV:=[sl c.nc (c.nodes.map Nd.enc),sl c.mc (c.names.map a44),.nilslice,sl c.oc (c.outs.map a0n)]
def CX.cir (x:CX):Cir:=⟨some none,x.nodes,some none,x.names,some none,x.outN⟩
attribute [go_sem] a44
theorem CX.gs_take (x:CX):x.gates.take x.gs.length = x.gs:=by
 unfold CX.gs
 rw [List.length_take]
 by_cases h:x.gates.length ≤ 8
 ·rw [Nat.min_eq_right h,List.take_length,List.take_of_length_le h]
 ·rw [Nat.min_eq_left (by omega)]
theorem a15 {α:Type} {l:List α} {i:Nat} {a:α} (h:l[i]? = some a):l.take (i + 1) = l.take i ++ [a]:=by
 rw [List.take_add_one,h];rfl
theorem b0q {α:Type} (a:α) (k i:Nat) (l:List α):(List.replicate k a ++ l)[k + i]? = l[i]?:=by
 rw [List.getElem?_append_right (by simp)];simp
theorem a8n {α:Type} (a:α) (k:Nat) (l:List α):(List.replicate k a ++ l)[k]? = l[0]?:=by
 rw [List.getElem?_append_right (by simp)];simp
theorem b0f {α:Type} (a v:α) (k i:Nat) (l:List α):(List.replicate k a ++ l).set (k + i) v = List.replicate k a ++ l.set i v:=by
 rw [List.set_append_right _ _ (by simp)];simp
theorem a8e {α:Type} (a v:α) (k:Nat) (l:List α):(List.replicate k a ++ l).set k v = List.replicate k a ++ l.set 0 v:=by
 rw [List.set_append_right _ _ (by simp)];simp
def KindRows (R:List (List AV)) (ks:List Nat):Prop:=R.length = ks.length ∧ ∀ (i k:Nat),ks[i]? = some k → ∃ v x y,R[i]? = some [.int .u8 k,v,x,y]
def FixR (m:Nat) (R:List (List AV)):Prop:=∀ π:Nat → Option Nat,(∀ b,b < m → π b = some b) → R.map (fun r=>r.map (ren π)) = R
theorem KindRows.append {R R':List (List AV)} {ks ks':List Nat} (h:KindRows R ks) (h':KindRows R' ks'):KindRows (R ++ R') (ks ++ ks'):=by
 refine ⟨by simp [h.1,h'.1],fun i k hk=>?_⟩
 by_cases hi:i < ks.length
 ·rw [List.getElem?_append_left hi] at hk
  rw [List.getElem?_append_left (by rw [h.1];exact hi)]
  exact h.2 i k hk
 ·rw [List.getElem?_append_right (by omega)] at hk
  rw [List.getElem?_append_right (by rw [h.1];omega),h.1]
  exact h'.2 _ k hk
theorem KindRows.nil:KindRows [] []:=⟨rfl,fun i k h=>by simp at h⟩
theorem KindRows.cons {k:Nat} {v x y:AV} {R:List (List AV)} {ks:List Nat} (h:KindRows R ks):KindRows ([.int .u8 k,v,x,y] :: R) (k :: ks):=by
 refine ⟨by simp [h.1],fun i q hq=>?_⟩
 cases i with
 | zero=>simp only [List.getElem?_cons_zero,Option.some.injEq] at hq ⊢;subst hq;exact ⟨v,x,y,rfl⟩
 | succ i=>simp only [List.getElem?_cons_succ] at hq ⊢;exact h.2 i q hq
theorem KindRows.rep (n k:Nat) (v x y:AV):KindRows (List.replicate n [.int .u8 k,v,x,y]) (List.replicate n k):=by
 induction n with
 | zero=>exact KindRows.nil
 | succ n ih=>rw [List.replicate_succ,List.replicate_succ];exact ih.cons
theorem KindRows.nds:∀ l:List Nd,KindRows (l.map Nd.enc) (l.map Nd.kind)
 | []=>KindRows.nil
 | _ :: l=>(KindRows.nds l).cons
theorem FixR.append {m:Nat} {R R':List (List AV)} (h:FixR m R) (h':FixR m R'):FixR m (R ++ R'):=by
 intro π hπ;rw [List.map_append,h π hπ,h' π hπ]
theorem FixR.flat {m:Nat} {R:List (List AV)} (h:FlatR R):FixR m R:=fun π _=>a01 π h
theorem c29 (l:List Nd):FlatR (l.map Nd.enc):=FlatR.map fun x=>by simp only [Nd.enc,a0d,a2r,refs];rfl
attribute [go_sem] Nd.enc GX.enc CX.enc a0n u8R List.length_map List.getElem?_map
end Go.Pc
/- PcWord: words of 64 values as d0r data. Plain definitions. -/
namespace Go.Pc
open Go.Ax
structure W where
 one:BitVec 64
 zero:BitVec 64
def W.enc (w:W):List AV:=[u64 w.one,u64 w.zero]
attribute [go_sem] W.enc
def b1g (v:Nat):Nat:=if 3 < v then 2 else v
def a2l (v:Nat):W:=match b1g v with
 | 0=>⟨0#64,BitVec.allOnes 64⟩
 | 1=>⟨BitVec.allOnes 64,0#64⟩
 | 2=>⟨0#64,0#64⟩
 | _=>⟨BitVec.allOnes 64,BitVec.allOnes 64⟩
def c9g (a b:W):W:=⟨a.one &&& b.one,a.zero ||| b.zero⟩
def wOr (a b:W):W:=⟨a.one ||| b.one,a.zero &&& b.zero⟩
def c9f (a b:W):W:=⟨a.one &&& b.zero ||| a.zero &&& b.one,a.one &&& b.one ||| a.zero &&& b.zero⟩
def a5u (f:W → W → W) (z:W) (l:List W):W:=l.foldl f z
def a4n (w:W):W:=⟨w.one &&& ~~~(w.one &&& w.zero),w.zero &&& ~~~(w.one &&& w.zero)⟩
def d3n (w:W):W:=⟨w.zero,w.one⟩
def d90 (s a b:W):W:=⟨s.zero &&& a.one ||| s.one &&& b.one ||| a.one &&& b.one,s.zero &&& a.zero ||| s.one &&& b.zero ||| a.zero &&& b.zero⟩
def d8z (e d:W):W:=⟨e.zero ||| e.one &&& d.one,e.zero ||| e.one &&& d.zero⟩
def d85 (s:BitVec 64 × BitVec 64 × BitVec 64) (w:W):BitVec 64 × BitVec 64 × BitVec 64:=(s.1 ||| (w.one &&& ~~~w.zero),s.2.1 ||| (w.zero &&& ~~~w.one),s.2.2 ||| ~~~(w.one ||| w.zero))
def c4e (l:List W):BitVec 64 × BitVec 64 × BitVec 64:=l.foldl d85 (BitVec.ofInt 64 0,BitVec.ofInt 64 0,BitVec.ofInt 64 0)
def e2r (s:BitVec 64 × BitVec 64 × BitVec 64):W:=⟨~~~s.2.1 &&& ~~~(s.2.2 ||| (s.1 &&& s.2.1)),~~~s.1 &&& ~~~(s.2.2 ||| (s.1 &&& s.2.1))⟩
def c4y (l:List W):W:=e2r (c4e l)
theorem b8y {l:List W} {i:Nat} {x:W} (h:l[i]? = some x):c4e (l.take (i + 1)) = d85 (c4e (l.take i)) x:=by
 unfold c4e;rw [a15 h,List.foldl_append];rfl
theorem b0c {f:W → W → W} {z:W} {l:List W} {i:Nat} {x:W} (h:l[i]? = some x):a5u f z (l.take (i + 1)) = f (a5u f z (l.take i)) x:=by
 unfold a5u;rw [a15 h,List.foldl_append];rfl
theorem d7e (l:List W):FlatR (l.map W.enc):=FlatR.map fun _=>rfl
theorem a39 (l:List W):(l.map W.enc).flatMap a0d = []:=a03 (d7e l)
theorem a54 (π:Nat → Option Nat) (l:List W):(l.map W.enc).map (fun r=>r.map (ren π)) = l.map W.enc:=a01 π (d7e l)
attribute [go_sem] a39 a54
def a21 (k:Nat):Nat:=[0,0,0,1,1,2,2,2,2,2,2,3,2,1,1,0].getD k 0
def a1p (k:Nat):Nat:=[0,0,0,1,1,16,16,16,16,16,16,3,2,16,1,0].getD k 0
def zW:W:=⟨0#64,0#64⟩
def a1o (k:Nat) (r:List W):W:=match k with
 | 1=>a2l 0
 | 2=>a2l 1
 | 3=>r.getD 0 zW
 | 4=>d3n (r.getD 0 zW)
 | 5=>a5u c9g (a2l 1) r
 | 6=>d3n (a5u c9g (a2l 1) r)
 | 7=>a5u wOr (a2l 0) r
 | 8=>d3n (a5u wOr (a2l 0) r)
 | 9=>a5u c9f (a2l 0) r
 | 10=>d3n (a5u c9f (a2l 0) r)
 | 11=>d90 (r.getD 0 zW) (r.getD 1 zW) (r.getD 2 zW)
 | 12=>d8z (r.getD 0 zW) (r.getD 1 zW)
 | _=>a2l 2
def a3t (k:Nat) (l:List W):W:=
 if l.length < a21 k ∨ a1p k < l.length then a2l 2
 else if k = 13 then c4y l
 else a1o k (l.map a4n)
def rdW (l:List W) (i:Nat):List W:=(l.take i).map a4n ++ List.replicate (l.length - i) zW
theorem c1g (l:List W):rdW l 0 = List.replicate l.length zW:=by simp [rdW]
theorem c66 (l:List W):rdW l l.length = l.map a4n:=by simp [rdW]
theorem c65 {l:List W} {i:Nat} (h:i < l.length):(rdW l i)[i]? = some zW:=by
 unfold rdW
 rw [List.getElem?_append_right (by simp;omega)]
 simp [List.getElem?_replicate]
 omega
theorem d61 {l:List W} {i:Nat} {x:W} (h:l[i]? = some x):(rdW l i).set i (a4n x) = rdW l (i + 1):=by
 have hi:=(List.getElem?_eq_some_iff.1 h).1
 unfold rdW
 rw [List.set_append_right _ _ (by simp;omega),a15 h,List.map_append,List.append_assoc]
 congr 1
 have e:l.length - i = (l.length - (i + 1)) + 1:=by omega
 rw [e,List.replicate_succ]
 have e2:i - ((l.take i).map a4n).length = 0:=by simp;omega
 rw [e2]
 rfl
theorem c1h {l:List W} {i:Nat} {x:W} (h:l[i]? = some x):((rdW l i).map W.enc).set i [u64 (a4n x).one,u64 (a4n x).zero] = (rdW l (i + 1)).map W.enc:=by
 rw [← d61 h,List.map_set];rfl
def d86 (n:Nat):BitVec 64:=BitVec.ofInt 64 1 <<< n
def b12 (w:W) (n v:Nat):W:=⟨w.one &&& ~~~d86 n ||| (a2l v).one &&& d86 n,w.zero &&& ~~~d86 n ||| (a2l v).zero &&& d86 n⟩
def a1v (k:Nat):Bool:=decide (1 ≤ k) && decide (k ≤ 13)
end Go.Pc
/- PcSim: one cycle of a circuit, over words or over single values; lanes of words are single values. Plain definitions. -/
namespace Go.Pc
open Go.Ax
structure Alg (α:Type) where
 ev:Nat → List α → α
 z:α
 fill:Nat → α
structure Hk (α:Type) where
 net:Nat → α → α
 pin:Nat → Nat → α → α
structure Flt where
 model:Nat
 node:Nat
 pin:Int
 value:Nat
 other:Nat
def Flt.enc (f:Flt):List AV:=[.int .u8 f.model,.int .i64 f.node,.int .i64 f.pin,.int .u8 f.value,.int .i64 f.other]
structure Pat where
 ic:Rep
 ins:List Nat
 sc:Rep
 sts:List Nat
def Pat.enc (p:Pat):List AV:=[sl p.ic (p.ins.map u8R),sl p.sc (p.sts.map u8R)]
section
variable {α:Type} (A:Alg α) (nodes:List Nd) (h:Hk α)
def a1h (nodes:List Nd) (n:Nat):Nat:=(nodes[n]?.map Nd.kind).getD 0
def a31 (nodes:List Nd) (n:Nat):List Nat:=(nodes[n]?.map Nd.ins).getD []
def a74 (n:Nat) (nets:List α):Nat → List Nat → List α
 | _,[]=>[]
 | p,m :: r=>h.pin n p (nets.getD m A.z) :: a74 n nets (p + 1) r
def a1u (nets:List α) (n:Nat):List α:=a74 A h n nets 0 (a31 nodes n)
def stepG (nets:List α) (n:Nat):List α:=
 nets.set n (h.net n (if a1h nodes n ≠ 0 ∧ a1h nodes n ≠ 14 then A.ev (a1h nodes n) (a1u A nodes h nets n) else nets.getD n A.z))
def a68 (nets:List α):List Nat → List α → List α
 | i :: is,v :: vs=>a68 (nets.set i v) is vs
 | _,_=>nets
def c3g (ord ins sts:List Nat) (vi vs:List α):List α:=
 ord.foldl (stepG A nodes h) (a68 (a68 (List.replicate nodes.length A.z) ins vi) sts vs)
def c31 (outs sts:List Nat) (nets:List α):List α:=
 outs.map (fun n=>nets.getD n A.z) ++ sts.map (fun n=>(a1u A nodes h nets n).getD 0 A.z)
def hk0:Hk α:=⟨fun _ w=>w,fun _ _ w=>w⟩
def a1w (good:List α) (f:Flt):α:=
 if f.model = 0 then A.fill f.value
 else if f.model = 3 then good.getD f.other A.z
 else if f.value = 0 then A.ev 5 [good.getD f.node A.z,good.getD f.other A.z]
 else A.ev 7 [good.getD f.node A.z,good.getD f.other A.z]
def Flt.hitsNet (f:Flt) (n:Nat):Bool:=decide (f.pin < 0) && (decide (n = f.node) || (decide (f.model = 2) && decide (n = f.other)))
def Flt.hitsPin (f:Flt) (n p:Nat):Bool:=decide (0 ≤ f.pin) && (decide (n = f.node) && decide ((p:Int) = f.pin))
def hkF (f:Flt) (v:α):Hk α:=⟨fun n w=>if f.hitsNet n then v else w,fun n p w=>if f.hitsPin n p then v else w⟩
end
structure Hom {α β:Type} (A:Alg α) (B:Alg β) (φ:α → β):Prop where
 ev:∀ k l,φ (A.ev k l) = B.ev k (l.map φ)
 z:φ A.z = B.z
 fill:∀ v,φ (A.fill v) = B.fill v
structure HkHom {α β:Type} (φ:α → β) (h:Hk α) (k:Hk β):Prop where
 net:∀ n w,φ (h.net n w) = k.net n (φ w)
 pin:∀ n p w,φ (h.pin n p w) = k.pin n p (φ w)
section
variable {α β:Type} {A:Alg α} {B:Alg β} {φ:α → β} (hφ:Hom A B φ) {nodes:List Nd} {h:Hk α} {k:Hk β} (hk:HkHom φ h k)
include hφ
theorem a79 (l:List α) (n:Nat):φ (l.getD n A.z) = (l.map φ).getD n B.z:=by
 simp only [List.getD_eq_getElem?_getD,List.getElem?_map]
 cases l[n]? with
 | none=>exact hφ.z
 | some x=>rfl
include hk
theorem b2a (n:Nat) (nets:List α):∀ (l:List Nat) (p:Nat),(a74 A h n nets p l).map φ = a74 B k n (nets.map φ) p l
 | [],_=>rfl
 | m :: r,p=>by simp only [a74,List.map_cons,hk.pin,a79 hφ,b2a n nets r (p + 1)]
theorem b4l (nets:List α) (n:Nat):(a1u A nodes h nets n).map φ = a1u B nodes k (nets.map φ) n:=b2a hφ hk n nets _ 0
theorem c59 (nets:List α) (n:Nat):(stepG A nodes h nets n).map φ = stepG B nodes k (nets.map φ) n:=by
 unfold stepG
 rw [List.map_set,hk.net]
 congr 2
 split
 ·rw [hφ.ev,b4l hφ hk]
 ·exact a79 hφ _ _
omit hk in
omit hφ in
theorem b2n:∀ (is:List Nat) (vs:List α) (nets:List α),(a68 nets is vs).map φ = a68 (nets.map φ) is (vs.map φ)
 | [],vs,nets=>by cases vs<;>rfl
 | i :: is,[],nets=>rfl
 | i :: is,v :: vs,nets=>by simp only [a68,List.map_cons,b2n is vs,List.map_set]
theorem b7y (ord ins sts:List Nat) (vi vs:List α):(c3g A nodes h ord ins sts vi vs).map φ = c3g B nodes k ord ins sts (vi.map φ) (vs.map φ):=by
 unfold c3g
 have key:∀ (ord:List Nat) (n0:List α),(ord.foldl (stepG A nodes h) n0).map φ = ord.foldl (stepG B nodes k) (n0.map φ):=by
  intro ord
  induction ord with
  | nil=>intro n0;rfl
  | cons a l ih=>intro n0;simp only [List.foldl_cons,ih,c59 hφ hk]
 rw [key,b2n,b2n,List.map_replicate,hφ.z]
theorem b7i (outs sts:List Nat) (nets:List α):(c31 A nodes h outs sts nets).map φ = c31 B nodes k outs sts (nets.map φ):=by
 unfold c31
 simp only [List.map_append,List.map_map]
 congr 1
 ·exact List.map_congr_left fun n _=>a79 hφ _ _
 ·refine List.map_congr_left fun n _=>?_
  simp only [Function.comp,a79 hφ,b4l hφ hk]
omit hk in
theorem c3z (good:List α) (f:Flt):φ (a1w A good f) = a1w B (good.map φ) f:=by
 unfold a1w
 split
 ·exact hφ.fill _
 split
 ·exact a79 hφ _ _
 split
 ·rw [hφ.ev];simp only [List.map_cons,List.map_nil,a79 hφ]
 ·rw [hφ.ev];simp only [List.map_cons,List.map_nil,a79 hφ]
omit hk hφ in
theorem c7g:HkHom φ (hk0:Hk α) (hk0:Hk β):=⟨fun _ _=>rfl,fun _ _ _=>rfl⟩
omit hk hφ in
theorem d6z (f:Flt) (v:α):HkHom φ (hkF f v) (hkF f (φ v)):=⟨fun n w=>by unfold hkF;dsimp only;split<;>rfl,fun n p w=>by unfold hkF;dsimp only;split<;>rfl⟩
end
/-! ### single values -/
abbrev V2:=Bool × Bool
def a2n (v:Nat):V2:=match b1g v with
 | 0=>(false,true)
 | 1=>(true,false)
 | 2=>(false,false)
 | _=>(true,true)
def e38 (a b:V2):V2:=(a.1 && b.1,a.2 || b.2)
def vOr (a b:V2):V2:=(a.1 || b.1,a.2 && b.2)
def e37 (a b:V2):V2:=(a.1 && b.2 || a.2 && b.1,a.1 && b.1 || a.2 && b.2)
def d4y (w:V2):V2:=(w.1 && !(w.1 && w.2),w.2 && !(w.1 && w.2))
def e0b (w:V2):V2:=(w.2,w.1)
def e55 (s a b:V2):V2:=(s.2 && a.1 || s.1 && b.1 || a.1 && b.1,s.2 && a.2 || s.1 && b.2 || a.2 && b.2)
def e54 (e d:V2):V2:=(e.2 || e.1 && d.1,e.2 || e.1 && d.2)
def c9r (s:Bool × Bool × Bool) (w:V2):Bool × Bool × Bool:=(s.1 || (w.1 && !w.2),s.2.1 || (w.2 && !w.1),s.2.2 || !(w.1 || w.2))
def d4x (s:Bool × Bool × Bool):V2:=(!s.2.1 && !(s.2.2 || (s.1 && s.2.1)),!s.1 && !(s.2.2 || (s.1 && s.2.1)))
def e56 (l:List V2):V2:=d4x (l.foldl c9r (false,false,false))
def c4z (k:Nat) (r:List V2):V2:=match k with
 | 1=>a2n 0
 | 2=>a2n 1
 | 3=>r.getD 0 (false,false)
 | 4=>e0b (r.getD 0 (false,false))
 | 5=>r.foldl e38 (a2n 1)
 | 6=>e0b (r.foldl e38 (a2n 1))
 | 7=>r.foldl vOr (a2n 0)
 | 8=>e0b (r.foldl vOr (a2n 0))
 | 9=>r.foldl e37 (a2n 0)
 | 10=>e0b (r.foldl e37 (a2n 0))
 | 11=>e55 (r.getD 0 (false,false)) (r.getD 1 (false,false)) (r.getD 2 (false,false))
 | 12=>e54 (r.getD 0 (false,false)) (r.getD 1 (false,false))
 | _=>a2n 2
def d4z (k:Nat) (l:List V2):V2:=
 if l.length < a21 k ∨ a1p k < l.length then a2n 2
 else if k = 13 then e56 l
 else c4z k (l.map d4y)
def a1t:Alg W:=⟨a3t,zW,a2l⟩
def b3w:Alg V2:=⟨d4z,(false,false),a2n⟩
def a30 (j:Nat) (w:W):V2:=(w.one.getLsbD j,w.zero.getLsbD j)
section
variable {j:Nat} (hj:j < 64)
include hj
theorem a9s (v:Nat):a30 j (a2l v) = a2n v:=by
 have ha:(BitVec.allOnes 64).getLsbD j = true:=by rw [BitVec.getLsbD_allOnes];simpa using hj
 have hz:(0#64).getLsbD j = false:=BitVec.getLsbD_zero
 unfold a2l a2n
 split<;>simp only [a30,ha,hz, *]
theorem c6z (w:W):a30 j (a4n w) = d4y (a30 j w):=by
 simp [a4n,d4y,a30,hj]
omit hj in
theorem d1e (a b:W):a30 j (c9g a b) = e38 (a30 j a) (a30 j b):=by simp [c9g,e38,a30]
omit hj in
theorem d6r (a b:W):a30 j (wOr a b) = vOr (a30 j a) (a30 j b):=by simp [wOr,vOr,a30]
omit hj in
theorem d19 (a b:W):a30 j (c9f a b) = e37 (a30 j a) (a30 j b):=by simp [c9f,e37,a30]
omit hj in
theorem d1b (a:W):a30 j (d3n a) = e0b (a30 j a):=rfl
omit hj in
theorem d1c (s a b:W):a30 j (d90 s a b) = e55 (a30 j s) (a30 j a) (a30 j b):=by simp [d90,e55,a30]
omit hj in
theorem d1a (a b:W):a30 j (d8z a b) = e54 (a30 j a) (a30 j b):=by simp [d8z,e54,a30]
omit hj in
theorem a9r {f:W → W → W} {g:V2 → V2 → V2} (h:∀ a b,a30 j (f a b) = g (a30 j a) (a30 j b)):∀ (l:List W) (z:W),a30 j (l.foldl f z) = (l.map (a30 j)).foldl g (a30 j z)
 | [],_=>rfl
 | a :: l,z=>by simp only [List.foldl_cons,List.map_cons,a9r h l,h]
def b85 (j:Nat) (s:BitVec 64 × BitVec 64 × BitVec 64):Bool × Bool × Bool:=(s.1.getLsbD j,s.2.1.getLsbD j,s.2.2.getLsbD j)
theorem c72 (s:BitVec 64 × BitVec 64 × BitVec 64) (w:W):b85 j (d85 s w) = c9r (b85 j s) (a30 j w):=by
 simp [b85,d85,c9r,a30,hj]
theorem c73 (s:BitVec 64 × BitVec 64 × BitVec 64):a30 j (e2r s) = d4x (b85 j s):=by
 simp [b85,e2r,d4x,a30,hj]
theorem d1d (l:List W):a30 j (c4y l) = e56 (l.map (a30 j)):=by
 unfold c4y e56 c4e
 rw [c73 hj]
 congr 1
 have key:∀ (l:List W) s,b85 j (l.foldl d85 s) = (l.map (a30 j)).foldl c9r (b85 j s):=by
  intro l
  induction l with
  | nil=>intro s;rfl
  | cons a l ih=>intro s;simp only [List.foldl_cons,List.map_cons,ih,c72 hj]
 rw [key]
 congr 1
 simp [b85]
omit hj in
theorem c70 (l:List W) (n:Nat):a30 j (l.getD n zW) = (l.map (a30 j)).getD n (false,false):=by
 simp only [List.getD_eq_getElem?_getD,List.getElem?_map]
 cases l[n]? with
 | none=>simp [a30,zW]
 | some x=>rfl
theorem c3m (k:Nat) (l:List W):a30 j (a1o k l) = c4z k (l.map (a30 j)):=by
 unfold a1o c4z
 split<;>simp only [a9s hj,d1b,d1c,d1a,c70,a5u,a9r d1e,a9r d6r,a9r d19]
theorem c71 (k:Nat) (l:List W):a30 j (a3t k l) = d4z k (l.map (a30 j)):=by
 unfold a3t d4z
 rw [List.length_map]
 split
 ·exact a9s hj 2
 split
 ·exact d1d hj l
 ·rw [c3m hj,List.map_map,List.map_map]
  congr 1
  exact List.map_congr_left fun w _=>c6z hj w
theorem d6s:Hom a1t b3w (a30 j):=⟨c71 hj,by simp [a1t,b3w,a30,zW],a9s hj⟩
end
/-! ### contradictions -/
def ctr (x y:W):BitVec 64:=(x.one &&& ~~~x.zero &&& y.zero &&& ~~~y.one) ||| (x.zero &&& ~~~x.one &&& y.one &&& ~~~y.zero)
def e80 (x y:V2):Bool:=(x.1 && !x.2 && y.2 && !y.1) || (x.2 && !x.1 && y.1 && !y.2)
def b7a:List W → List W → BitVec 64 → BitVec 64
 | x :: xs,y :: ys,s=>b7a xs ys (s ||| ctr x y)
 | _,_,s=>s
def c9q:List V2 → List V2 → Bool → Bool
 | x :: xs,y :: ys,s=>c9q xs ys (s || e80 x y)
 | _,_,s=>s
theorem b84 {j:Nat} (hj:j < 64):∀ (a b:List W) (s:BitVec 64),(b7a a b s).getLsbD j = c9q (a.map (a30 j)) (b.map (a30 j)) (s.getLsbD j)
 | [],b,s=>by cases b<;>rfl
 | x :: xs,[],s=>rfl
 | x :: xs,y :: ys,s=>by
  simp only [b7a,c9q,List.map_cons,b84 hj xs ys]
  congr 1
  simp [ctr,e80,a30,hj]
/-! ### a circuit -/
structure Sim where
 nodes:List Nd
 ord:List Nat
 ins:List Nat
 sts:List Nat
 outs:List Nat
section
variable {α:Type} (A:Alg α) (S:Sim)
def Sim.nets (h:Hk α) (vi vs:List α):List α:=c3g A S.nodes h S.ord S.ins S.sts vi vs
def Sim.seen (h:Hk α) (nets:List α):List α:=c31 A S.nodes h S.outs S.sts nets
end
def Sim.det (S:Sim) (f:Flt) (p:Pat):Bool:=
 let vi:=p.ins.map a2n
 let vs:=p.sts.map a2n
 let good:=S.nets b3w hk0 vi vs
 let h:=hkF f (a1w b3w good f)
 c9q (S.seen b3w hk0 good) (S.seen b3w h (S.nets b3w h vi vs)) false
end Go.Pc
/- PcWf: the circuits of the statements are valid. Plain. -/
namespace Go.Pc
open Go.Ax
structure Cir.wf (c:Cir):Prop where
 pos:0 < c.nodes.length
 len:c.nodes.length ≤ 14
 names:c.names = (List.range c.nodes.length).map a2y
 kind:∀ x ∈ c.nodes,x.kind ≤ 14
 lo:∀ x ∈ c.nodes,a21 x.kind ≤ x.ins.length
 hi:∀ x ∈ c.nodes,x.ins.length ≤ a1p x.kind
 ins:∀ x ∈ c.nodes,∀ m ∈ x.ins,m < c.nodes.length
 bus:∀ x ∈ c.nodes,x.kind = 13 → ∀ m ∈ x.ins,a1h c.nodes m = 12
 mem:∀ x ∈ c.nodes,x.mem = 0 ∧ x.bit = 0
 acyc:∀ (i:Nat) (x:Nd),c.nodes[i]? = some x → a1v x.kind = true → ∀ m ∈ x.ins,m < i
 outs:∀ o ∈ c.outs,o < c.nodes.length
 outl:c.outs.length ≤ 4
theorem d7i {k:Nat} (h:k < 6):a21 (5 + k) = 2 ∧ a1p (5 + k) = 16:=by
 have:k = 0 ∨ k = 1 ∨ k = 2 ∨ k = 3 ∨ k = 4 ∨ k = 5:=by omega
 rcases this with rfl|rfl|rfl|rfl|rfl|rfl<;>exact ⟨rfl,rfl⟩
structure GateOk (ks:List Nat) (x:Nd):Prop where
 k1:1 ≤ x.kind
 k13:x.kind ≤ 13
 lo:a21 x.kind ≤ x.ins.length
 hi:x.ins.length ≤ a1p x.kind
 ins:∀ m ∈ x.ins,m < ks.length
 bus:x.kind = 13 → ∀ m ∈ x.ins,ks[m]? = some 12
 mem:x.mem = 0 ∧ x.bit = 0
theorem c0x {ks:List Nat} {i:Nat} (h:i < (a8v ks).length):(a8v ks).getD i 0 < ks.length ∧ ks[(a8v ks).getD i 0]? = some 12:=by
 have:(a8v ks).getD i 0 ∈ a8v ks:=by
  rw [List.getD,List.getElem?_eq_getElem h];exact List.getElem_mem h
 exact c2v this
theorem c7k (bus:Bool) (g:GX) (ks:List Nat) (hp:0 < ks.length):GateOk ks (a0o bus g ks):=by
 have a:=Nat.mod_lt g.i0 hp
 have b:=Nat.mod_lt g.i1 hp
 have d:=Nat.mod_lt g.i2 hp
 unfold a0o
 dsimp only
 generalize (if bus = true then g.kind % 13 else g.kind % 9) = kind
 split
 ·rename_i h6
  obtain ⟨e1,e2⟩:=d7i h6
  split
  ·exact ⟨by dsimp only;omega,by dsimp only;omega,by simp [e1],by simp [e2],by simp [a,b,d],by dsimp only;omega,⟨rfl,rfl⟩⟩
  ·exact ⟨by dsimp only;omega,by dsimp only;omega,by simp [e1],by simp [e2],by simp [a,b],by dsimp only;omega,⟨rfl,rfl⟩⟩
 split
 ·exact ⟨by dsimp only;omega,by dsimp only;omega,by simp [a21],by simp [a1p],by simp [a],by simp,⟨rfl,rfl⟩⟩
 split
 ·exact ⟨by dsimp only;omega,by dsimp only;omega,by simp [a21],by simp [a1p],by simp [a,b,d],by simp,⟨rfl,rfl⟩⟩
 split
 ·exact ⟨by dsimp only;omega,by dsimp only;omega,by simp [a21],by simp [a1p],by simp [a,b],by simp,⟨rfl,rfl⟩⟩
 split
 ·rename_i h
  have t0:=c0x (Nat.mod_lt g.i0 h.2)
  split
  ·have t1:=c0x (Nat.mod_lt (g.i0 % (a8v ks).length + 1) h.2)
   refine ⟨by dsimp only;omega,by dsimp only;omega,by simp [a21],by simp [a1p],?_,?_,⟨rfl,rfl⟩⟩
   ·intro m hm;simp only [List.mem_cons,List.not_mem_nil,or_false] at hm;rcases hm with rfl|rfl;exact t0.1;exact t1.1
   ·intro _ m hm;simp only [List.mem_cons,List.not_mem_nil,or_false] at hm;rcases hm with rfl|rfl;exact t0.2;exact t1.2
  ·refine ⟨by dsimp only;omega,by dsimp only;omega,by simp [a21],by simp [a1p],?_,?_,⟨rfl,rfl⟩⟩
   ·intro m hm;simp only [List.mem_cons,List.not_mem_nil,or_false] at hm;subst hm;exact t0.1
   ·intro _ m hm;simp only [List.mem_cons,List.not_mem_nil,or_false] at hm;subst hm;exact t0.2
 split
 ·have:g.i0 % 2 = 0 ∨ g.i0 % 2 = 1:=by omega
  rcases this with h|h<;>rw [h]<;>exact ⟨by dsimp only;omega,by dsimp only;omega,by simp [a21],by simp [a1p],by simp,by simp,⟨rfl,rfl⟩⟩
 ·exact ⟨by dsimp only;omega,by dsimp only;omega,by simp [a21],by simp [a1p],by simp [a],by simp,⟨rfl,rfl⟩⟩
theorem d48 (bus:Bool):∀ (l:List GX) (ks:List Nat) (i:Nat) (x:Nd),(gN bus ks l)[i]? = some x → ∃ g,x = a0o bus g (ks ++ ((gN bus ks l).take i).map Nd.kind)
 | [],ks,i,x,h=>by simp [gN] at h
 | g :: l,ks,0,x,h=>by simp only [gN,List.getElem?_cons_zero,Option.some.injEq] at h;exact ⟨g,by rw [← h];simp⟩
 | g :: l,ks,i + 1,x,h=>by
  simp only [gN,List.getElem?_cons_succ] at h
  obtain ⟨g',hg⟩:=d48 bus l _ i x h
  exact ⟨g',by rw [hg];simp [gN]⟩
theorem CX.dn_len (x:CX):x.dn.length = x.d:=by
 have:x.d < 3:=Nat.mod_lt _ (by omega)
 unfold CX.dn;rw [List.length_map,List.length_take];simp;omega
theorem CX.nodes_len (x:CX):x.nodes.length = x.n:=by
 unfold CX.nodes CX.n
 rw [List.length_append,List.length_append,List.length_replicate,x.dn_len,a4r]
theorem CX.dn_kind (x:CX):x.dn.map Nd.kind = List.replicate x.d 14:=by
 have:x.d = 0 ∨ x.d = 1 ∨ x.d = 2:=by have:x.d < 3:=Nat.mod_lt _ (by omega);omega
 unfold CX.dn
 rcases this with h|h|h<;>rw [h]<;>rfl
theorem CX.base_len (x:CX):x.base.length = x.k + x.d:=by unfold CX.base;simp
theorem CX.kinds (x:CX):x.nodes.map Nd.kind = x.base ++ (gN x.bus x.base x.gs).map Nd.kind:=by
 unfold CX.nodes CX.base
 rw [List.map_append,List.map_append,List.map_replicate,x.dn_kind]
 rfl
theorem CX.node_cases (x:CX) {i:Nat} {nd:Nd} (h:x.nodes[i]? = some nd):nd = a9d ∨ (∃ v,nd = a3r (v % x.n)) ∨ GateOk ((x.nodes.map Nd.kind).take i) nd:=by
 unfold CX.nodes at h
 by_cases h1:i < x.k
 ·rw [List.append_assoc,List.getElem?_append_left (by simpa using h1),List.getElem?_replicate,if_pos h1] at h
  exact .inl (Option.some.inj h).symm
 rw [List.append_assoc,List.getElem?_append_right (by simpa using h1),List.length_replicate] at h
 by_cases h2:i - x.k < x.d
 ·rw [List.getElem?_append_left (by rw [x.dn_len];exact h2)] at h
  unfold CX.dn at h
  rw [List.getElem?_map] at h
  cases hv:([x.d0,x.d1].take x.d)[i - x.k]? with
  | none=>rw [hv] at h;cases h
  | some v=>rw [hv] at h;exact .inr (.inl ⟨v,(Option.some.inj h).symm⟩)
 ·rw [List.getElem?_append_right (by rw [x.dn_len];omega),x.dn_len] at h
  obtain ⟨g,hg⟩:=d48 _ _ _ _ _ h
  refine .inr (.inr ?_)
  have e:(x.nodes.map Nd.kind).take i = x.base ++ ((gN x.bus x.base x.gs).take (i - x.k - x.d)).map Nd.kind:=by
   rw [x.kinds,List.take_append,List.take_of_length_le (by rw [x.base_len];omega),x.base_len,List.map_take]
   congr 2;omega
  rw [e,hg]
  exact c7k _ _ _ (by
   rw [List.length_append,x.base_len];have:0 < x.k:=by unfold CX.k;omega
   omega)
theorem CX.wf (x:CX):x.cir.wf:=by
 have hn:=x.nodes_len
 have hk:x.k ≤ 4 ∧ 0 < x.k:=by unfold CX.k;omega
 have hd:x.d < 3:=Nat.mod_lt _ (by omega)
 have hg:x.gs.length ≤ 8:=by unfold CX.gs;rw [List.length_take];omega
 have hnn:x.n = x.k + x.d + x.gs.length:=rfl
 have key:∀ nd ∈ x.nodes,∃ i,x.nodes[i]? = some nd ∧ i < x.n:=by
  intro nd h
  obtain ⟨i,hi⟩:=List.mem_iff_getElem?.1 h
  exact ⟨i,hi,by rw [← hn];exact (List.getElem?_eq_some_iff.1 hi).1⟩
 have hl:∀ i,i < x.n → ((x.nodes.map Nd.kind).take i).length = i:=fun i hi=>by rw [List.length_take,List.length_map,hn];omega
 have hsrc:∀ nd ∈ x.nodes,nd = a9d ∨ (∃ v,nd = a3r (v % x.n)) ∨ ∃ i,i < x.n ∧ GateOk ((x.nodes.map Nd.kind).take i) nd:=by
  intro nd h
  obtain ⟨i,hi,hlt⟩:=key nd h
  rcases x.node_cases hi with h|h|h
  ·exact .inl h
  ·exact .inr (.inl h)
  ·exact .inr (.inr ⟨i,hlt,h⟩)
 refine ⟨by show 0 < x.nodes.length;omega,by show x.nodes.length ≤ 14;omega,by show x.names = _;rw [show x.cir.nodes = x.nodes from rfl,hn];rfl,?_,?_,?_,?_,?_,?_,?_,?_,?_⟩
 ·intro nd h
  rcases hsrc nd h with rfl|⟨v,rfl⟩|⟨i,hi,h⟩
  ·decide
  ·exact Nat.le_refl 14
  ·have:=h.k13;omega
 ·intro nd h
  rcases hsrc nd h with rfl|⟨v,rfl⟩|⟨i,hi,h⟩
  ·decide
  ·exact Nat.le_refl 1
  ·exact h.lo
 ·intro nd h
  rcases hsrc nd h with rfl|⟨v,rfl⟩|⟨i,hi,h⟩
  ·decide
  ·exact Nat.le_refl 1
  ·exact h.hi
 ·intro nd h m hm
  show m < x.nodes.length
  rw [hn]
  rcases hsrc nd h with rfl|⟨v,rfl⟩|⟨i,hi,h⟩
  ·simp [a9d] at hm
  ·simp only [a3r,List.mem_cons,List.not_mem_nil,or_false] at hm;subst hm;exact Nat.mod_lt _ (by omega)
  ·have:=h.ins m hm;rw [hl i hi] at this;omega
 ·intro nd h h13 m hm
  rcases hsrc nd h with rfl|⟨v,rfl⟩|⟨i,hi,h⟩
  ·simp [a9d] at hm
  ·simp [a3r] at h13
  ·have h1:=h.bus h13 m hm
   have h2:=h.ins m hm
   rw [hl i hi] at h2
   rw [List.getElem?_take,if_pos h2,List.getElem?_map] at h1
   show a1h x.nodes m = 12
   unfold a1h
   rw [h1];rfl
 ·intro nd h
  rcases hsrc nd h with rfl|⟨v,rfl⟩|⟨i,hi,h⟩
  ·exact ⟨rfl,rfl⟩
  ·exact ⟨rfl,rfl⟩
  ·exact h.mem
 ·intro i nd h hc m hm
  have hlt:i < x.n:=by rw [← hn];exact (List.getElem?_eq_some_iff.1 h).1
  rcases x.node_cases h with rfl|⟨v,rfl⟩|h
  ·simp [a9d] at hm
  ·simp [a3r,a1v] at hc
  ·have:=h.ins m hm;rw [hl i hlt] at this;exact this
 ·intro o ho
  show o < x.nodes.length
  rw [hn]
  have ho:o ∈ x.outN:=ho
  unfold CX.outN at ho
  simp only [List.mem_append,List.mem_map,List.mem_cons,List.not_mem_nil,or_false] at ho
  rcases ho with ⟨a,_,rfl⟩|rfl
  ·exact Nat.mod_lt _ (by omega)
  ·omega
 ·show x.outN.length ≤ 4
  unfold CX.outN;simp;omega
end Go.Pc
/- PcFan: which pins read a net. Plain. -/
namespace Go.Pc
open Go.Ax
def a7z (l:Nat × Nat):List AV:=[.int .i64 l.1,.int .i64 l.2]
def cnt (L:List (Nat × Nat)) (a:Nat):Nat:=(L.map (·.1)).count a
structure FoOk (nodes:List Nd) (i k:Nat) (fo:List (List (Nat × Nat))):Prop where
 len:fo.length = nodes.length
 num:∀ (j:Nat) (L:List (Nat × Nat)),fo[j]? = some L → ∀ a,cnt L a = if a < i then (a31 nodes a).count j else if a = i then ((a31 nodes i).take k).count j else 0
theorem FoOk.zero (nodes:List Nd):FoOk nodes 0 0 (List.replicate nodes.length []):=by
 refine ⟨by simp,fun j L h a=>?_⟩
 rw [List.getElem?_replicate] at h
 split at h
 ·cases h;simp [Pc.cnt]
 ·cases h
theorem FoOk.step {nodes:List Nd} {i k m:Nat} {fo:List (List (Nat × Nat))} {L:List (Nat × Nat)} (h:FoOk nodes i k fo) (hm:(a31 nodes i)[k]? = some m) (hL:fo[m]? = some L):FoOk nodes i (k + 1) (fo.set m (L ++ [(i,k)])):=by
 refine ⟨by rw [List.length_set,h.len],fun j L' hj a=>?_⟩
 have ht:=a15 hm
 rw [List.getElem?_set] at hj
 have hml:m < fo.length:=(List.getElem?_eq_some_iff.1 hL).1
 by_cases hmj:m = j
 ·subst hmj
  simp only [if_true,hml,Option.some.injEq] at hj
  subst hj
  have:=h.num m L hL a
  have e:Pc.cnt (L ++ [(i,k)]) a = Pc.cnt L a + if i = a then 1 else 0:=by
   unfold Pc.cnt
   rw [List.map_append,List.count_append]
   by_cases hia:i = a
   ·subst hia;simp
   ·simp [hia,List.count_cons]
  rw [e,this,ht]
  by_cases h1:a < i
  ·simp [h1];omega
  ·by_cases h2:a = i
   ·subst h2;simp
   ·simp [h1,h2];omega
 ·rw [if_neg hmj] at hj
  have:=h.num j L' hj a
  rw [this,ht]
  by_cases h1:a < i
  ·simp [h1]
  ·by_cases h2:a = i
   ·subst h2
    simp [List.count_append,List.count_cons,hmj]
   ·simp [h1,h2]
theorem FoOk.next {nodes:List Nd} {i k:Nat} {fo:List (List (Nat × Nat))} (h:FoOk nodes i k fo) (hk:k = (a31 nodes i).length):FoOk nodes (i + 1) 0 fo:=by
 refine ⟨h.len,fun j L hj a=>?_⟩
 rw [h.num j L hj a]
 subst hk
 rw [List.take_length]
 by_cases h1:a < i
 ·simp [h1,show a < i + 1 by omega]
 ·by_cases h2:a = i
  ·subst h2;simp
  ·simp [h1,h2,show ¬ a < i + 1 by omega]
theorem a2g {nodes:List Nd} {i:Nat} {x:Nd} (h:nodes[i]? = some x):a31 nodes i = x.ins:=by simp [a31,h]
theorem c6w (n:Nat):∀ (L:List (Nat × Nat)),(∀ l ∈ L,l.1 < n) → L.length = ((List.range n).map fun a=>cnt L a).sum
 | [],_=>by
  have:∀ l:List Nat,(l.map fun a=>cnt [] a).sum = 0:=by intro l;induction l with|nil=>rfl|cons a l ih=>rw [List.map_cons,List.sum_cons,ih];rfl
  rw [this];rfl
 | x :: L,h=>by
  have ih:=c6w n L (fun l hl=>h l (by simp [hl]))
  have hx:=h x (by simp)
  have e:∀ a,cnt (x :: L) a = cnt L a + if x.1 = a then 1 else 0:=fun a=>by
   unfold cnt;rw [List.map_cons,List.count_cons];simp [beq_iff_eq]
  have s:∀ (l:List Nat),l.Nodup → (l.map fun a=>cnt (x :: L) a).sum = (l.map fun a=>cnt L a).sum + if x.1 ∈ l then 1 else 0:=by
   intro l
   induction l with
   | nil=>intro _;rfl
   | cons a l ih2=>
    intro hn
    rw [List.nodup_cons] at hn
    simp only [List.map_cons,List.sum_cons,e a,ih2 hn.2,List.mem_cons]
    by_cases h1:x.1 = a
    ·subst h1;simp [hn.1];omega
    ·simp [h1];omega
  rw [s _ List.nodup_range,if_pos (by simpa using hx),List.length_cons,ih]
theorem FoOk.node {nodes:List Nd} {i k j:Nat} {fo:List (List (Nat × Nat))} {L:List (Nat × Nat)} (h:FoOk nodes i k fo) (hL:fo[j]? = some L) (hi:i ≤ nodes.length):∀ l ∈ L,l.1 < nodes.length:=by
 intro l hl
 have hc:=h.num j L hL l.1
 have hp:0 < cnt L l.1:=by unfold cnt;exact List.count_pos_iff.2 (List.mem_map.2 ⟨l,hl,rfl⟩)
 by_cases h1:l.1 < i
 ·omega
 ·rw [if_neg h1] at hc
  by_cases h2:l.1 = i
  ·rw [if_pos h2] at hc
   cases hx:nodes[i]? with
   | none=>simp [a31,hx] at hc;omega
   | some x=>have:=(List.getElem?_eq_some_iff.1 hx).1;omega
  ·rw [if_neg h2] at hc;omega
theorem FoOk.total {nodes:List Nd} {i k j:Nat} {fo:List (List (Nat × Nat))} {L:List (Nat × Nat)} (h:FoOk nodes i k fo) (hL:fo[j]? = some L) (hn:nodes.length ≤ 14) (hx:∀ y ∈ nodes,y.ins.length ≤ 16) (hi:i ≤ nodes.length:=by omega):L.length ≤ 224:=by
 have hb:∀ a,cnt L a ≤ 16:=by
  intro a
  have hins:(a31 nodes a).length ≤ 16:=by
   unfold a31
   cases hx':nodes[a]? with
   | none=>simp
   | some x=>exact hx x (List.mem_of_getElem? hx')
  rw [h.num j L hL a]
  split
  ·exact Nat.le_trans List.count_le_length hins
  split
  ·rename_i e;subst e
   refine Nat.le_trans List.count_le_length ?_
   rw [List.length_take];omega
  ·omega
 rw [c6w nodes.length L (h.node hL hi)]
 have s:∀ l:List Nat,(l.map fun a=>cnt L a).sum ≤ 16 * l.length:=by
  intro l
  induction l with
  | nil=>simp
  | cons a l ih=>have:=hb a;simp only [List.map_cons,List.sum_cons,List.length_cons];omega
 have:=s (List.range nodes.length)
 rw [List.length_range] at this
 omega
theorem Cir.wf.insl {c:Cir} (h:c.wf) {x:Nd} (hx:x ∈ c.nodes):x.ins.length ≤ 16:=by
 have k14:=h.kind x hx
 have hhi:=h.hi x hx
 have:a1p x.kind ≤ 16:=by
  have hk:x.kind = 0 ∨ x.kind = 1 ∨ x.kind = 2 ∨ x.kind = 3 ∨ x.kind = 4 ∨ x.kind = 5 ∨ x.kind = 6 ∨ x.kind = 7 ∨ x.kind = 8 ∨ x.kind = 9 ∨ x.kind = 10 ∨ x.kind = 11 ∨ x.kind = 12 ∨ x.kind = 13 ∨ x.kind = 14:=by omega
  rcases hk with e|e|e|e|e|e|e|e|e|e|e|e|e|e|e<;>rw [e]<;>decide
 omega
end Go.Pc
/- PcKahn: the order in which nodes become ready. Plain. -/
namespace Go.Pc
open Go.Ax
def b77 (nodes:List Nd) (ready:List Nat) (done a:Nat):Nat:=((a31 nodes a).filter fun m=>decide (m ∉ ready.take done)).length
structure Kahn (nodes:List Nd) (left ready:List Nat) (done:Nat) (L:List (Nat × Nat)):Prop where
 ll:left.length = nodes.length
 rn:∀ r ∈ ready,r < nodes.length
 nd:ready.Nodup
 dle:done ≤ ready.length
 eq:∀ a,a < nodes.length → a1v (a1h nodes a) = true → left.getD a 0 + cnt L a = b77 nodes ready done a
 nc:∀ a,a < nodes.length → a1v (a1h nodes a) = false → left.getD a 0 = 0
 zero:∀ a,a < nodes.length → (a ∈ ready ↔ left.getD a 0 = 0)
def b0b (nodes:List Nd) (a:Nat):Nat:=if a1v (a1h nodes a) then (a31 nodes a).length else 0
def a2z (nodes:List Nd) (i:Nat):List Nat:=(List.range nodes.length).map fun j=>if j < i then b0b nodes j else 0
def a3j (nodes:List Nd) (i:Nat):List Nat:=(List.range i).filter fun j=>decide (b0b nodes j = 0)
theorem b7r (nodes:List Nd) (i:Nat):a3j nodes (i + 1) = if b0b nodes i = 0 then a3j nodes i ++ [i] else a3j nodes i:=by
 unfold a3j
 rw [List.range_succ,List.filter_append]
 by_cases h:b0b nodes i = 0<;>simp [h]
theorem c34 (nodes:List Nd) (i:Nat):(a3j nodes i).length ≤ i:=Nat.le_trans (List.length_filter_le _ _) (by simp)
theorem c06 (nodes:List Nd):a2z nodes 0 = List.replicate nodes.length 0:=by
 apply List.ext_getElem?
 intro j
 simp only [a2z,List.getElem?_map,List.getElem?_replicate,Nat.not_lt_zero,if_false]
 by_cases h:j < nodes.length
 ·rw [List.getElem?_range h];simp [h]
 ·rw [List.getElem?_eq_none (by simpa using h)];simp [h]
theorem a5b {nodes:List Nd} {i j:Nat} (h:j < nodes.length):(a2z nodes i)[j]? = some (if j < i then b0b nodes j else 0):=by
 simp [a2z,List.getElem?_range h]
theorem b2q {nodes:List Nd} {i:Nat} (h:i < nodes.length):(a2z nodes i).set i (b0b nodes i) = a2z nodes (i + 1):=by
 apply List.ext_getElem?
 intro j
 rw [List.getElem?_set]
 by_cases hj:j < nodes.length
 ·rw [a5b hj,a5b hj]
  by_cases hij:i = j
  ·subst hij;simp [a2z,h]
  ·by_cases h2:j < i
   ·simp [hij,h2,show j < i + 1 by omega]
   ·simp [hij,h2,show ¬ j < i + 1 by omega]
 ·have e:∀ i,(a2z nodes i)[j]? = none:=fun i=>List.getElem?_eq_none (by simp [a2z];omega)
  rw [e,e]
  have:i ≠ j:=by omega
  simp [this]
theorem c07 {nodes:List Nd} {i:Nat} (h:i < nodes.length) (h0:b0b nodes i = 0):a2z nodes i = a2z nodes (i + 1):=by
 rw [← b2q h]
 apply List.ext_getElem?
 intro j
 rw [List.getElem?_set]
 by_cases hij:i = j
 ·subst hij;rw [a5b h];simp [a2z,h,h0]
 ·simp [hij]
theorem Kahn.start (nodes:List Nd):Kahn nodes (a2z nodes nodes.length) (a3j nodes nodes.length) 0 []:=by
 have hg:∀ a,a < nodes.length → (a2z nodes nodes.length).getD a 0 = b0b nodes a:=by
  intro a ha
  rw [List.getD,a5b ha];simp [ha]
 refine ⟨by simp [a2z],?_,?_,Nat.zero_le _,?_,?_,?_⟩
 ·intro r hr
  unfold a3j at hr
  rw [List.mem_filter] at hr
  simpa using hr.1
 ·exact List.nodup_range.filter _
 ·intro a ha hc
  rw [hg a ha]
  have e:∀ l:List Nat,(l.filter fun m=>decide (m ∉ ([]:List Nat))) = l:=fun l=>List.filter_eq_self.2 (fun m _=>by simp)
  simp only [b0b,hc,if_true,b77,cnt,List.map_nil,List.count_nil,List.take_zero,Nat.add_zero]
  exact (congrArg List.length (e _)).symm
 ·intro a ha hc
  rw [hg a ha];simp [b0b,hc]
 ·intro a ha
  rw [hg a ha]
  unfold a3j
  rw [List.mem_filter]
  simp [ha]
section
variable {nodes:List Nd} {left ready:List Nat} {done:Nat} {L:List (Nat × Nat)}
theorem b6t (L:List (Nat × Nat)) (a p b:Nat):cnt (L ++ [(a,p)]) b = cnt L b + if a = b then 1 else 0:=by
 unfold cnt
 rw [List.map_append,List.count_append]
 by_cases hia:a = b
 ·subst hia;simp
 ·simp [hia,List.count_cons]
theorem Kahn.skip (h:Kahn nodes left ready done L) {a p:Nat} (hc:a1v (a1h nodes a) = false):Kahn nodes left ready done (L ++ [(a,p)]):=by
 refine ⟨h.ll,h.rn,h.nd,h.dle,?_,h.nc,h.zero⟩
 intro b hb hcb
 have:a ≠ b:=fun e=>by subst e;rw [hc] at hcb;cases hcb
 rw [b6t,if_neg this,Nat.add_zero]
 exact h.eq b hb hcb
theorem d0v {ready:List Nat} {done x a:Nat} (h:done ≤ ready.length):b77 nodes (ready ++ [x]) done a = b77 nodes ready done a:=by
 unfold b77;rw [List.take_append_of_le_length h]
theorem Kahn.pos (h:Kahn nodes left ready done L) {a p:Nat} (ha:a < nodes.length) (hc:a1v (a1h nodes a) = true) (hcnt:cnt (L ++ [(a,p)]) a ≤ b77 nodes ready done a):0 < left.getD a 0:=by
 have:=h.eq a ha hc
 rw [b6t,if_pos rfl] at hcnt
 omega
theorem Kahn.dec (h:Kahn nodes left ready done L) {a p:Nat} (ha:a < nodes.length) (hc:a1v (a1h nodes a) = true) (hcnt:cnt (L ++ [(a,p)]) a ≤ b77 nodes ready done a) :
 Kahn nodes (left.set a (left.getD a 0 - 1)) (if left.getD a 0 - 1 = 0 then ready ++ [a] else ready) done (L ++ [(a,p)]):=by
 have hpos:=h.pos ha hc hcnt
 have hal:a < left.length:=by rw [h.ll];exact ha
 have hget:∀ b,(left.set a (left.getD a 0 - 1)).getD b 0 = if a = b then left.getD a 0 - 1 else left.getD b 0:=by
  intro b
  simp only [List.getD_eq_getElem?_getD,List.getElem?_set]
  by_cases hab:a = b
  ·subst hab;simp [hal]
  ·simp [hab]
 have hna:a ∉ ready:=fun hm=>by have:=(h.zero a ha).1 hm;omega
 have hpe:∀ b,b77 nodes (if left.getD a 0 - 1 = 0 then ready ++ [a] else ready) done b = b77 nodes ready done b:=by
  intro b;split
  ·exact d0v h.dle
  ·rfl
 refine ⟨by rw [List.length_set,h.ll],?_,?_,?_,?_,?_,?_⟩
 ·intro r hr
  split at hr
  ·simp only [List.mem_append,List.mem_singleton] at hr
   rcases hr with hr|rfl
   ·exact h.rn r hr
   ·exact ha
  ·exact h.rn r hr
 ·split
  ·rw [List.nodup_append]
   refine ⟨h.nd,by simp,?_⟩
   intro x hx y hy
   simp only [List.mem_singleton] at hy
   subst hy
   exact fun e=>hna (e ▸ hx)
  ·exact h.nd
 ·split
  ·have:=h.dle;simp;omega
  ·exact h.dle
 ·intro b hb hcb
  rw [hget,hpe,b6t]
  have:=h.eq b hb hcb
  by_cases hab:a = b
  ·subst hab;rw [if_pos rfl,if_pos rfl];omega
  ·rw [if_neg hab,if_neg hab,Nat.add_zero];exact this
 ·intro b hb hcb
  have:a ≠ b:=fun e=>by subst e;rw [hc] at hcb;cases hcb
  rw [hget,if_neg this]
  exact h.nc b hb hcb
 ·intro b hb
  rw [hget]
  by_cases hab:a = b
  ·subst hab
   rw [if_pos rfl]
   split
   ·rename_i e;exact ⟨fun _=>e,fun _=>by simp⟩
   ·rename_i e;exact ⟨fun hm=>absurd hm hna,fun e'=>absurd e' e⟩
  ·rw [if_neg hab]
   rw [← h.zero b hb]
   split
   ·simp [Ne.symm hab]
   ·rfl
theorem a65 (l:List Nat) (S:List Nat) (x:Nat) (hx:x ∉ S):(l.filter fun m=>decide (m ∉ S)).length = (l.filter fun m=>decide (m ∉ S ++ [x])).length + l.count x:=by
 induction l with
 | nil=>rfl
 | cons a l ih=>
  simp only [List.filter_cons,List.count_cons]
  by_cases hax:a = x
  ·subst hax
   simp [hx] at ih ⊢
   omega
  ·by_cases haS:a ∈ S
   ·simp [haS,hax] at ih ⊢;omega
   ·simp [haS,hax] at ih ⊢;omega
theorem Kahn.next (h:Kahn nodes left ready done L) {x:Nat} (hx:ready[done]? = some x) (hL:∀ a,a < nodes.length → cnt L a = (a31 nodes a).count x):Kahn nodes left ready (done + 1) []:=by
 have hdl:=(List.getElem?_eq_some_iff.1 hx).1
 have ht:=a15 hx
 have hnx:x ∉ ready.take done:=by
  intro hm
  obtain ⟨i,hi⟩:=List.mem_iff_getElem?.1 hm
  rw [List.getElem?_take] at hi
  split at hi
  case isFalse=>cases hi
  have:=(List.getElem?_inj (by omega) h.nd).1 (hi.trans hx.symm)
  omega
 refine ⟨h.ll,h.rn,h.nd,by omega,?_,h.nc,h.zero⟩
 intro a ha hc
 have:=h.eq a ha hc
 rw [hL a ha] at this
 unfold b77 at this ⊢
 rw [ht]
 rw [a65 _ _ x hnx] at this
 simp only [cnt,List.map_nil,List.count_nil]
 omega
theorem d6a {ready:List Nat} {done x a:Nat} (nd:ready.Nodup) (hx:ready[done]? = some x):(a31 nodes a).count x ≤ b77 nodes ready done a:=by
 have hdl:=(List.getElem?_eq_some_iff.1 hx).1
 have hnx:x ∉ ready.take done:=by
  intro hm
  obtain ⟨i,hi⟩:=List.mem_iff_getElem?.1 hm
  rw [List.getElem?_take] at hi
  split at hi
  case isFalse=>cases hi
  have:=(List.getElem?_inj (by omega) nd).1 (hi.trans hx.symm)
  omega
 unfold b77
 rw [a65 _ _ x hnx]
 omega
theorem Kahn.all (h:Kahn nodes left ready ready.length []) (hac:∀ (i:Nat) (x:Nd),nodes[i]? = some x → a1v x.kind = true → ∀ m ∈ x.ins,m < i):nodes.length ≤ ready.length:=by
 have key:∀ n a,a ≤ n → a < nodes.length → a ∈ ready:=by
  intro n
  induction n with
  | zero=>
   intro a han ha
   obtain rfl:a = 0:=by omega
   rw [h.zero 0 ha]
   cases hc:a1v (a1h nodes 0) with
   | false=>exact h.nc 0 ha hc
   | true=>
    obtain ⟨x,hx⟩:∃ x,nodes[0]? = some x:=⟨_,List.getElem?_eq_getElem ha⟩
    have he:=h.eq 0 ha hc
    have hk:a1h nodes 0 = x.kind:=by simp [a1h,hx]
    rw [hk] at hc
    have hi:a31 nodes 0 = []:=by
     simp only [a31,hx,Option.map_some,Option.getD_some]
     cases hins:x.ins with
     | nil=>rfl
     | cons m r=>have:=hac 0 x hx hc m (by simp [hins]);omega
    have:b77 nodes ready ready.length 0 = 0:=by simp [b77,hi]
    omega
  | succ n ih=>
   intro a han ha
   rw [h.zero a ha]
   cases hc:a1v (a1h nodes a) with
   | false=>exact h.nc a ha hc
   | true=>
    obtain ⟨x,hx⟩:∃ x,nodes[a]? = some x:=⟨_,List.getElem?_eq_getElem ha⟩
    have he:=h.eq a ha hc
    have hk:a1h nodes a = x.kind:=by simp [a1h,hx]
    rw [hk] at hc
    have hi:a31 nodes a = x.ins:=a2g hx
    have:b77 nodes ready ready.length a = 0:=by
     unfold b77
     rw [hi,List.take_length,List.length_eq_zero_iff,List.filter_eq_nil_iff]
     intro m hm
     have h1:=hac a x hx hc m hm
     have h2:=ih m (by omega) (by omega)
     simp [h2]
    omega
 have:=b2p (l:=List.range nodes.length) (T:=ready) List.nodup_range (fun a ha=>key a a (Nat.le_refl _) (by simpa using ha))
 simpa using this
theorem Kahn.bound (h:Kahn nodes left ready done L):ready.length ≤ nodes.length:=by
 have:=b2p h.nd (T:=List.range nodes.length) (fun a ha=>by simpa using h.rn a ha)
 simpa using this
end
end Go.Pc
/- PcPerm: exchanging neighbours. Plain. -/
namespace Go.Pc
theorem c54 {l:List Nat} {j x y:Nat} (hj:l[j + 1]? = some x) (hi:l[j]? = some y):((l.set (j + 1) y).set j x).Perm l:=by
 induction l generalizing j with
 | nil=>simp at hj
 | cons a l ih=>
  cases j with
  | zero=>
   cases l with
   | nil=>simp at hj
   | cons b l=>
    simp only [List.getElem?_cons_succ,List.getElem?_cons_zero,Option.some.injEq] at hj hi
    subst hj;subst hi
    exact List.Perm.swap ..
  | succ j=>
   simp only [List.getElem?_cons_succ] at hj hi
   simp only [List.set_cons_succ]
   exact (ih hj hi).cons a
def d4g (a b:Nat):Int:=if a < b then -1 else if b < a then 1 else 0
end Go.Pc
/- PcReach: which nets a net depends on; faults that are valid. Plain. -/
namespace Go.Pc
open Go.Ax
inductive DepOn (nodes:List Nd):Nat → Nat → Prop
 | refl (a:Nat):DepOn nodes a a
 | step {a m b:Nat} (hk:a1h nodes a ≠ 14) (hm:m ∈ a31 nodes a) (h:DepOn nodes m b):DepOn nodes a b
theorem DepOn.cases {nodes:List Nd} {a b:Nat} (h:DepOn nodes a b):a = b ∨ (a1h nodes a ≠ 14 ∧ ∃ m,m ∈ a31 nodes a ∧ DepOn nodes m b):=by
 cases h with
 | refl=>exact .inl rfl
 | step hk hm h=>exact .inr ⟨hk,_,hm,h⟩
theorem DepOn.not_dff {nodes:List Nd} {a b:Nat} (hab:a ≠ b) (hk:a1h nodes a = 14):¬ DepOn nodes a b:=fun h=>by
 rcases h.cases with e|⟨h1,_⟩
 ·exact hab e
 ·exact h1 hk
theorem DepOn.snoc {nodes:List Nd} {a b m:Nat} (h:DepOn nodes a b) (hk:a1h nodes b ≠ 14) (hm:m ∈ a31 nodes b):DepOn nodes a m:=by
 induction h with
 | refl a=>exact .step hk hm (.refl _)
 | step hk' hm' _ ih=>exact .step hk' hm' (ih hk hm)
theorem Cir.wf.comb_of {c:Cir} (h:c.wf) {x:Nd} (hx:x ∈ c.nodes) (hp:0 < x.ins.length) (h14:x.kind ≠ 14):a1v x.kind = true:=by
 have h1:=h.kind x hx
 have h2:=h.hi x hx
 have h3:x.kind ≠ 0:=by
  intro e;rw [e] at h2
  have:a1p 0 = 0:=rfl
  omega
 simp [a1v];omega
structure FltOk (nodes:List Nd) (f:Flt):Prop where
 model:f.model = 0 ∨ f.model = 2 ∨ f.model = 3
 node:f.node < nodes.length
 pin:-1 ≤ f.pin ∧ f.pin < (a31 nodes f.node).length
 value:f.value ≤ 1
 other:f.other < nodes.length
 stuck:f.model = 0 → f.other = 0
 bridge:f.model ≠ 0 → f.pin = -1 ∧ f.node ≠ f.other ∧ (f.model = 2 → f.node ≤ f.other) ∧ (f.model = 3 → f.value = 0) ∧ a1h nodes f.node ≠ 12 ∧ a1h nodes f.other ≠ 12 ∧ ¬ DepOn nodes f.node f.other ∧ ¬ DepOn nodes f.other f.node
end Go.Pc
/- PcRun: the simulation, step by step. Plain. -/
namespace Go.Pc
open Go.Ax
section
variable {α:Type} {A:Alg α} {nodes:List Nd} {h:Hk α}
theorem c64 {n:Nat} {nets:List α}:∀ {l:List Nat} {p i m:Nat},l[i]? = some m → (a74 A h n nets p l)[i]? = some (h.pin n (p + i) (nets.getD m A.z))
 | [],p,i,m,hm=>by simp at hm
 | a :: l,p,0,m,hm=>by simp at hm;subst hm;rfl
 | a :: l,p,i + 1,m,hm=>by
  simp only [List.getElem?_cons_succ] at hm
  simp only [a74,List.getElem?_cons_succ,c64 (p:=p + 1) hm]
  rw [show p + 1 + i = p + (i + 1) by omega]
theorem c63 {n:Nat} {nets:List α}:∀ (l:List Nat) (p:Nat),(a74 A h n nets p l).length = l.length
 | [],_=>rfl
 | a :: l,p=>by simp [a74,c63 l]
theorem b0j {nets:List α} {n:Nat}:(a1u A nodes h nets n).length = (a31 nodes n).length:=c63 _ _
theorem c35 {nets:List α} {n i m:Nat} {v:α} (hm:(a31 nodes n)[i]? = some m) (hv:nets[m]? = some v):(a1u A nodes h nets n).take (i + 1) = (a1u A nodes h nets n).take i ++ [h.pin n i v]:=by
 have:=c64 (A:=A) (h:=h) (n:=n) (nets:=nets) (p:=0) hm
 rw [Nat.zero_add,List.getD,hv] at this
 exact a15 this
theorem b4u:∀ {is:List Nat} {vs:List α} {nets:List α} {a:Nat} {v:α},is.length = vs.length → a68 nets (is ++ [a]) (vs ++ [v]) = (a68 nets is vs).set a v
 | [],[],nets,a,v,_=>rfl
 | [],_ :: _,_,_,_,h=>by simp at h
 | _ :: _,[],_,_,_,h=>by simp at h
 | i :: is,w :: vs,nets,a,v,h=>by simp only [List.cons_append,a68];exact b4u (by simpa using h)
theorem a7y:∀ (is:List Nat) (vs:List α) (nets:List α),(a68 nets is vs).length = nets.length
 | [],vs,nets=>by cases vs<;>rfl
 | i :: is,[],nets=>rfl
 | i :: is,v :: vs,nets=>by simp [a68,a7y is vs]
theorem b4t {is:List Nat} {vs nets:List α} {i a:Nat} {v:α} (h1:is[i]? = some a) (h2:vs[i]? = some v):a68 nets (is.take (i + 1)) (vs.take (i + 1)) = (a68 nets (is.take i) (vs.take i)).set a v:=by
 rw [a15 h1,a15 h2]
 have l1:=(List.getElem?_eq_some_iff.1 h1).1
 have l2:=(List.getElem?_eq_some_iff.1 h2).1
 exact b4u (by rw [List.length_take,List.length_take];omega)
theorem c58 (nets:List α) (n:Nat):(stepG A nodes h nets n).length = nets.length:=by unfold stepG;simp
theorem c23 (l:List Nat) (nets:List α):(l.foldl (stepG A nodes h) nets).length = nets.length:=by
 induction l generalizing nets with
 | nil=>rfl
 | cons a l ih=>rw [List.foldl_cons,ih,c58]
theorem c6j (ord ins sts:List Nat) (vi vs:List α):(c3g A nodes h ord ins sts vi vs).length = nodes.length:=by
 unfold c3g;rw [c23,a7y,a7y];simp
theorem c7q {l:List Nat} {nets:List α} {i n:Nat} (hn:l[i]? = some n):(l.take (i + 1)).foldl (stepG A nodes h) nets = stepG A nodes h ((l.take i).foldl (stepG A nodes h) nets) n:=by
 rw [a15 hn,List.foldl_append];rfl
end
end Go.Pc
/- PcLev: levels of nodes; orders in which a3q node stands behind what it d0q. Plain. -/
namespace Go.Pc
open Go.Ax
structure Lev (nodes:List Nd) (lv ready:List Nat) (done:Nat) (L:List (Nat × Nat)):Prop where
 old:∀ a,a < nodes.length → a1v (a1h nodes a) = true → ∀ m ∈ a31 nodes a,m ∈ ready.take done → lv.getD m 0 < lv.getD a 0
 now:∀ l ∈ L,a1v (a1h nodes l.1) = true → ∀ x,ready[done]? = some x → lv.getD x 0 < lv.getD l.1 0
theorem Lev.start (nodes:List Nd) (lv ready:List Nat):Lev nodes lv ready 0 []:=⟨fun a _ _ m _ hm=>by simp at hm,fun l hl=>by simp at hl⟩
section
variable {nodes:List Nd} {lv left ready:List Nat} {done:Nat} {L:List (Nat × Nat)}
theorem Lev.skip (h:Lev nodes lv ready done L) {a p:Nat} (hc:a1v (a1h nodes a) = false):Lev nodes lv ready done (L ++ [(a,p)]):=by
 refine ⟨h.old,fun l hl hcl=>?_⟩
 rcases List.mem_append.1 hl with hl|hl
 ·exact h.now l hl hcl
 ·rw [List.mem_singleton.1 hl] at hcl;rw [hc] at hcl;cases hcl
theorem b1t (lv:List Nat) (a v b:Nat) (ha:a < lv.length):(lv.set a v).getD b 0 = if a = b then v else lv.getD b 0:=by
 simp only [List.getD_eq_getElem?_getD,List.getElem?_set]
 by_cases hab:a = b
 ·subst hab;simp [ha]
 ·simp [hab]
theorem Lev.dec (h:Lev nodes lv ready done L) {a p x va vx:Nat} (hx:ready[done]? = some x) (hna:a ∉ ready) (hva:lv[a]? = some va) (hvx:lv[x]? = some vx) {ready':List Nat} (hr:ready' = ready ∨ ready' = ready ++ [a]) :
 Lev nodes (lv.set a (max va (vx + 1))) ready' done (L ++ [(a,p)]):=by
 have hal:=(List.getElem?_eq_some_iff.1 hva).1
 have hdl:=(List.getElem?_eq_some_iff.1 hx).1
 have hxr:x ∈ ready:=List.mem_of_getElem? hx
 have hax:a ≠ x:=fun e=>hna (e ▸ hxr)
 have ea:lv.getD a 0 = va:=by rw [List.getD,hva];rfl
 have ex:lv.getD x 0 = vx:=by rw [List.getD,hvx];rfl
 have ht:ready'.take done = ready.take done:=by
  rcases hr with rfl|rfl
  ·rfl
  ·exact List.take_append_of_le_length (by omega)
 have hx':ready'[done]? = some x:=by
  rcases hr with rfl|rfl
  ·exact hx
  ·rw [List.getElem?_append_left hdl];exact hx
 have up:∀ b,lv.getD b 0 ≤ (lv.set a (max va (vx + 1))).getD b 0:=by
  intro b;rw [b1t _ _ _ _ hal];split
  ·rename_i e;subst e;rw [ea];exact Nat.le_max_left _ _
  ·exact Nat.le_refl _
 refine ⟨?_,?_⟩
 ·intro b hb hcb m hm hmr
  rw [ht] at hmr
  have hma:a ≠ m:=fun e=>hna (e ▸ List.mem_of_mem_take hmr)
  rw [b1t _ _ _ m hal,if_neg hma]
  exact Nat.lt_of_lt_of_le (h.old b hb hcb m hm hmr) (up b)
 ·intro l hl hcl y hy
  rw [hx'] at hy;cases hy
  rw [b1t _ _ _ x hal,if_neg hax]
  rcases List.mem_append.1 hl with hl|hl
  ·exact Nat.lt_of_lt_of_le (h.now l hl hcl x hx) (up _)
  ·rw [List.mem_singleton.1 hl,b1t _ _ _ _ hal,if_pos rfl,ex]
   exact Nat.lt_of_lt_of_le (Nat.lt_succ_self _) (Nat.le_max_right _ _)
theorem Lev.next (h:Lev nodes lv ready done L) {x:Nat} (hx:ready[done]? = some x) (hL:∀ a,a < nodes.length → cnt L a = (a31 nodes a).count x):Lev nodes lv ready (done + 1) []:=by
 refine ⟨?_,fun l hl=>by simp at hl⟩
 intro a ha hc m hm hmr
 rw [a15 hx] at hmr
 rcases List.mem_append.1 hmr with hmr|hmr
 ·exact h.old a ha hc m hm hmr
 ·rw [List.mem_singleton.1 hmr] at hm ⊢
  have h1:=hL a ha
  have h2:0 < (a31 nodes a).count x:=List.count_pos_iff.2 hm
  rw [← h1] at h2
  unfold Pc.cnt at h2
  obtain ⟨l,hl,rfl⟩:=List.mem_map.1 (List.count_pos_iff.1 h2)
  exact h.now l hl hc x hx
def Rises (nodes:List Nd) (lv:List Nat):Prop:=∀ a,a < nodes.length → a1v (a1h nodes a) = true → ∀ m ∈ a31 nodes a,m < nodes.length → lv.getD m 0 < lv.getD a 0
theorem Lev.all (h:Lev nodes lv ready ready.length []) (hk:Kahn nodes left ready ready.length []) (hall:nodes.length ≤ ready.length):Rises nodes lv:=by
 intro a ha hc m hm hmn
 refine h.old a ha hc m hm ?_
 rw [List.take_length]
 by_cases hmr:m ∈ ready
 ·exact hmr
 ·have hs:=b2p (l:=m :: ready) (T:=List.range nodes.length) (List.nodup_cons.2 ⟨hmr,hk.nd⟩) (fun b hb=>by
   rcases List.mem_cons.1 hb with rfl|hb
   ·simpa using hmn
   ·simpa using hk.rn b hb)
  simp at hs;omega
end
def e50 (nodes:List Nd) (ord:List Nat):Prop:=∀ (i n:Nat),ord[i]? = some n → a1v (a1h nodes n) = true → ∀ m ∈ a31 nodes n,m ∈ ord.take i
theorem Rises.topo {nodes:List Nd} {lv ord:List Nat} (h:Rises nodes lv) (hp:ord.Perm (List.range nodes.length)) (hs:ord.Pairwise fun x y=>lv.getD x 0 ≤ lv.getD y 0) (hin:∀ n,n < nodes.length → ∀ m ∈ a31 nodes n,m < nodes.length):e50 nodes ord:=by
 intro i n hi hc m hm
 have hn:n < nodes.length:=by have:=hp.mem_iff.1 (List.mem_of_getElem? hi);simpa using this
 have hmn:=hin n hn m hm
 obtain ⟨j,hj⟩:=List.mem_iff_getElem?.1 (hp.mem_iff.2 (List.mem_range.2 hmn))
 have hlt:=h n hn hc m hm hmn
 have hil:=(List.getElem?_eq_some_iff.1 hi).1
 have hjl:=(List.getElem?_eq_some_iff.1 hj).1
 by_cases hji:j < i
 ·exact List.mem_iff_getElem?.2 ⟨j,by rw [List.getElem?_take,if_pos hji];exact hj⟩
 ·exfalso
  by_cases hij:i = j
  ·subst hij;rw [hi] at hj;cases hj;omega
  ·have:=List.pairwise_iff_getElem.1 hs i j hil hjl (by omega)
   rw [(List.getElem?_eq_some_iff.1 hi).2,(List.getElem?_eq_some_iff.1 hj).2] at this
   omega
theorem Cir.wf.inAt {c:Cir} (h:c.wf):∀ n,n < c.nodes.length → ∀ m ∈ a31 c.nodes n,m < c.nodes.length:=by
 intro n hn m hm
 obtain ⟨x,hx⟩:∃ x,c.nodes[n]? = some x:=⟨_,List.getElem?_eq_getElem hn⟩
 rw [a2g hx] at hm
 exact h.ins x (List.mem_of_getElem? hx) m hm
/-! ### insertion -/
def SortJ (key:Nat → Nat) (d:List Nat) (i j:Nat):Prop:=∀ p q x y,p < q → q ≤ i → q ≠ j → d[p]? = some x → d[q]? = some y → key x ≤ key y
def SortI (key:Nat → Nat) (d:List Nat) (i:Nat):Prop:=∀ p q x y,p < q → q < i → d[p]? = some x → d[q]? = some y → key x ≤ key y
theorem SortI.start {key:Nat → Nat} {d:List Nat} {i:Nat} (h:SortI key d i):SortJ key d i i:=fun p q x y h1 h2 h3=>h p q x y h1 (by omega)
theorem SortI.one {key:Nat → Nat} {d:List Nat}:SortI key d 1:=fun p q x y h1 h2=>by omega
theorem SortJ.stop {key:Nat → Nat} {d:List Nat} {i j:Nat} (h:SortJ key d i j) (hj:j = 0 ∨ ∃ x y,d[j - 1]? = some x ∧ d[j]? = some y ∧ key x ≤ key y):SortI key d (i + 1):=by
 intro p q x y h1 h2 hx hy
 by_cases hq:q = j
 ·subst hq
  rcases hj with rfl|⟨x',y',h3,h4,h5⟩
  ·omega
  ·rw [hy] at h4;cases h4
   by_cases hp:p = q - 1
   ·subst hp;rw [hx] at h3;cases h3;exact h5
   ·exact Nat.le_trans (h p (q - 1) x x' (by omega) (by omega) (by omega) hx h3) h5
 ·exact h p q x y h1 (by omega) hq hx hy
theorem SortJ.swap {key:Nat → Nat} {d:List Nat} {i j:Nat} (h:SortJ key d i (j + 1)) (hji:j + 1 ≤ i) {x y:Nat} (hx:d[j]? = some x) (hy:d[j + 1]? = some y) (hlt:key y < key x):SortJ key ((d.set (j + 1) x).set j y) i j:=by
 have hjl:=(List.getElem?_eq_some_iff.1 hy).1
 have hg:∀ p,((d.set (j + 1) x).set j y)[p]? = if p = j then some y else if p = j + 1 then some x else d[p]?:=by
  intro p
  rw [List.getElem?_set,List.getElem?_set]
  simp only [List.length_set]
  by_cases h1:j = p
  ·subst h1;simp;omega
  ·by_cases h2:j + 1 = p
   ·subst h2;simp;omega
   ·simp [h1,h2,Ne.symm h1,Ne.symm h2]
 intro p q u v h1 h2 h3 hu hv
 rw [hg] at hu hv
 rw [if_neg h3] at hv
 by_cases hq:q = j + 1
 ·rw [if_pos hq] at hv;cases hv
  by_cases hp:p = j
  ·rw [if_pos hp] at hu;cases hu;omega
  ·rw [if_neg hp,if_neg (by omega)] at hu
   exact h p j u x (by omega) (by omega) (by omega) hu hx
 ·rw [if_neg hq] at hv
  by_cases hp:p = j
  ·rw [if_pos hp] at hu;cases hu
   exact h (j + 1) q y v (by omega) h2 (by omega) hy hv
  ·rw [if_neg hp] at hu
   by_cases hp2:p = j + 1
   ·rw [if_pos hp2] at hu;cases hu
    exact h j q x v (by omega) h2 (by omega) hx hv
   ·rw [if_neg hp2] at hu
    exact h p q u v h1 h2 (by omega) hu hv
theorem SortI.pairwise {key:Nat → Nat} {d:List Nat} (h:SortI key d d.length):d.Pairwise fun x y=>key x ≤ key y:=by
 rw [List.pairwise_iff_getElem]
 intro i j hi hj hij
 exact h i j _ _ hij hj (List.getElem?_eq_getElem hi) (List.getElem?_eq_getElem hj)
end Go.Pc
/- PcLed: what a ledger counts, test by test. Plain. -/
namespace Go.Pc
def a29 (most:Int) (D:Nat → Bool):Nat → Int × Int
 | 0=>(-1,0)
 | t + 1=>if (a29 most D t).2 < most ∧ D t = true then (if (a29 most D t).2 = 0 then (t:Int) else (a29 most D t).1,(a29 most D t).2 + 1) else a29 most D t
theorem a96 (most:Int) (D:Nat → Bool):∀ t,0 ≤ (a29 most D t).2 ∧ (a29 most D t).2 ≤ t
 | 0=>by simp [a29]
 | t + 1=>by
  have:=a96 most D t
  simp only [a29]
  split
  ·constructor<;>simp only<;>omega
  ·omega
theorem b2r (most:Int) (D:Nat → Bool):∀ t,((a29 most D t).1 < 0 ↔ (a29 most D t).2 = 0)
 | 0=>by simp [a29]
 | t + 1=>by
  have h:=b2r most D t
  have h2:=a96 most D t
  simp only [a29]
  split
  ·split
   ·simp;omega
   ·simp only;constructor
    ·intro h3;rw [h] at h3;omega
    ·intro h3;omega
  ·exact h
theorem b6b {most:Int} {D:Nat → Bool} {t:Nat} (h:(a29 most D t).2 = most):∀ s,a29 most D (t + s) = a29 most D t
 | 0=>rfl
 | s + 1=>by
  have ih:=b6b h s
  have hn:¬ ((a29 most D (t + s)).2 < most ∧ D (t + s) = true):=fun hh=>by have:=hh.1;rw [ih,h] at this;omega
  have e:a29 most D (t + (s + 1)) = a29 most D (t + s):=by
   rw [show t + (s + 1) = (t + s) + 1 by omega]
   simp only [a29,hn,if_false]
  rw [e,ih]
end Go.Pc
/- PcPack: words that are put together a30 by a30. Plain. -/
namespace Go.Pc
open Go.Ax
theorem b8j:∀ (a b:List W) (s:BitVec 64) (x y:W),a.length = b.length → b7a (a ++ [x]) (b ++ [y]) s = b7a a b s ||| ctr x y
 | [],[],s,x,y,_=>rfl
 | [],_ :: _,_,_,_,h=>by simp at h
 | _ :: _,[],_,_,_,h=>by simp at h
 | a :: as,b :: bs,s,x,y,h=>by simp only [List.cons_append,b7a];exact b8j as bs _ x y (by simpa using h)
theorem c88 {a b:List W} {i:Nat} {x y:W} (hx:a[i]? = some x) (hy:b[i]? = some y):b7a (a.take (i + 1)) (b.take (i + 1)) 0 = b7a (a.take i) (b.take i) 0 ||| ctr x y:=by
 have l1:=(List.getElem?_eq_some_iff.1 hx).1
 have l2:=(List.getElem?_eq_some_iff.1 hy).1
 rw [a15 hx,a15 hy,b8j]
 rw [List.length_take,List.length_take];omega
theorem c89:∀ (a b:List W) (s:BitVec 64),a.length ≤ b.length → b7a a (b.take a.length) s = b7a a b s
 | [],b,s,_=>by cases b<;>rfl
 | a :: as,[],s,h=>by simp at h
 | a :: as,b :: bs,s,h=>by simp only [List.length_cons,List.take_succ_cons,b7a];exact c89 as bs _ (by simpa using h)
def a2u:List Nat → Nat → W → W
 | [],_,w=>w
 | v :: r,k,w=>a2u r (k + 1) (b12 w k v)
theorem a9m:∀ (vs:List Nat) (k:Nat) (w:W) (v:Nat),a2u (vs ++ [v]) k w = b12 (a2u vs k w) (k + vs.length) v
 | [],k,w,v=>rfl
 | a :: r,k,w,v=>by simp only [List.cons_append,a2u,a9m r,List.length_cons];congr 1;omega
theorem b5z {vs:List Nat} {i v:Nat} {w:W} (h:vs[i]? = some v):a2u (vs.take (i + 1)) 0 w = b12 (a2u (vs.take i) 0 w) i v:=by
 have l:=(List.getElem?_eq_some_iff.1 h).1
 rw [a15 h,a9m,List.length_take,Nat.zero_add,Nat.min_eq_left (by omega)]
theorem b8b {j n:Nat} (hj:j < 64) (hn:n < 64):(d86 n).getLsbD j = decide (j = n):=by
 have e:BitVec.ofInt 64 1 = 1#64:=by decide
 unfold d86
 rw [e,BitVec.getLsbD_shiftLeft,BitVec.getLsbD_one]
 simp only [hj,decide_true,Bool.true_and]
 by_cases h:j = n
 ·subst h;simp
 ·by_cases h2:j < n
  ·simp [h2,h]
  ·have:¬ (j - n = 0):=by omega
   simp [h2,h,this]
theorem c3l {j n:Nat} (hj:j < 64) (hn:n < 64) (w:W) (v:Nat):a30 j (b12 w n v) = if j = n then a2n v else a30 j w:=by
 have hf:=a9s hj v
 have f1:(a2l v).one.getLsbD j = (a2n v).1:=congrArg Prod.fst hf
 have f2:(a2l v).zero.getLsbD j = (a2n v).2:=congrArg Prod.snd hf
 unfold a30 b12
 simp only [BitVec.getLsbD_or,BitVec.getLsbD_and,BitVec.getLsbD_not,b8b hj hn,hj,decide_true,Bool.true_and,f1,f2]
 by_cases h:j = n
 ·simp [h]
 ·simp [h]
theorem a9q {j:Nat} (hj:j < 64):∀ (vs:List Nat) (k:Nat) (w:W),k + vs.length ≤ 64 → a30 j (a2u vs k w) = if k ≤ j ∧ j < k + vs.length then a2n (vs.getD (j - k) 0) else a30 j w
 | [],k,w,_=>by
  have:¬ (k ≤ j ∧ j < k + 0):=by omega
  simp only [List.length_nil,if_neg this];rfl
 | v :: r,k,w,h=>by
  simp only [List.length_cons] at h ⊢
  simp only [a2u]
  rw [a9q hj r (k + 1) _ (by omega),c3l hj (by omega)]
  by_cases h1:j = k
  ·subst h1
   have e1:¬ (j + 1 ≤ j ∧ j < j + 1 + r.length):=by omega
   have e2:j ≤ j ∧ j < j + (r.length + 1):=by omega
   rw [if_neg e1,if_pos rfl,if_pos e2,Nat.sub_self];rfl
  ·by_cases h2:k + 1 ≤ j ∧ j < k + 1 + r.length
   ·have e2:k ≤ j ∧ j < k + (r.length + 1):=by omega
    rw [if_pos h2,if_pos e2,show j - k = (j - (k + 1)) + 1 by omega];rfl
   ·have e2:¬ (k ≤ j ∧ j < k + (r.length + 1)):=by omega
    rw [if_neg h2,if_neg e2,if_neg h1]
end Go.Pc
/- PcEach: many faults, one a30 each. Plain. -/
namespace Go.Pc
open Go.Ax
variable {j:Nat}
theorem d2b (S:Sim) {j:Nat} (hj:j < 64) (f:Flt) (p:Pat) (vi vs:List W) (hi:vi.map (a30 j) = p.ins.map a2n) (hs:vs.map (a30 j) = p.sts.map a2n) (h':Hk W) (hh:HkHom (a30 j) h' (hkF f (a30 j (a1w a1t (S.nets a1t hk0 vi vs) f)))) :
 (b7a (S.seen a1t hk0 (S.nets a1t hk0 vi vs)) (S.seen a1t h' (S.nets a1t h' vi vs)) 0).getLsbD j = S.det f p:=by
 have hφ:=d6s hj
 have hn0:(S.nets a1t hk0 vi vs).map (a30 j) = S.nets b3w hk0 (p.ins.map a2n) (p.sts.map a2n):=by
  rw [← hi,← hs];exact b7y hφ c7g S.ord S.ins S.sts vi vs
 have hf:a30 j (a1w a1t (S.nets a1t hk0 vi vs) f) = a1w b3w (S.nets b3w hk0 (p.ins.map a2n) (p.sts.map a2n)) f:=by
  rw [← hn0];exact c3z hφ _ f
 rw [hf] at hh
 have hn1:(S.nets a1t h' vi vs).map (a30 j) = S.nets b3w (hkF f (a1w b3w (S.nets b3w hk0 (p.ins.map a2n) (p.sts.map a2n)) f)) (p.ins.map a2n) (p.sts.map a2n):=by
  rw [← hi,← hs] at hh ⊢;exact b7y hφ hh S.ord S.ins S.sts vi vs
 rw [b84 hj]
 have s0:(S.seen a1t hk0 (S.nets a1t hk0 vi vs)).map (a30 j) = S.seen b3w hk0 (S.nets b3w hk0 (p.ins.map a2n) (p.sts.map a2n)):=by
  rw [← hn0];exact b7i hφ c7g S.outs S.sts _
 have s1:(S.seen a1t h' (S.nets a1t h' vi vs)).map (a30 j) = S.seen b3w (hkF f (a1w b3w (S.nets b3w hk0 (p.ins.map a2n) (p.sts.map a2n)) f)) (S.nets b3w (hkF f (a1w b3w (S.nets b3w hk0 (p.ins.map a2n) (p.sts.map a2n)) f)) (p.ins.map a2n) (p.sts.map a2n)):=by
  rw [← hn1];exact b7i hφ hh S.outs S.sts _
 rw [s0,s1]
 unfold Sim.det
 simp
end Go.Pc
/- PcCmp: neighbours that are equal are struck. -/
namespace Go.Pc
def ddF:Int → List Int → List Int
 | _,[]=>[]
 | p,x :: l=>if x = p then ddF p l else x :: ddF x l
def dd:List Int → List Int
 | []=>[]
 | x :: l=>x :: ddF x l
theorem b6r:∀ (l:List Int) (p y x:Int),ddF p (l ++ [y,x]) = ddF p (l ++ [y]) ++ if x = y then [] else [x]
 | [],p,y,x=>by
  simp only [List.nil_append,ddF]
  by_cases h:y = p
  ·subst h;simp
  ·simp [h]
 | z :: l,p,y,x=>by
  simp only [List.cons_append,ddF]
  split
  ·exact b6r l p y x
  ·rw [b6r l z y x];rfl
theorem d7o (l:List Int) (y x:Int):dd (l ++ [y,x]) = dd (l ++ [y]) ++ if x = y then [] else [x]:=by
 cases l with
 | nil=>simp only [List.nil_append,dd,ddF];by_cases h:x = y<;>simp [h]
 | cons z l=>simp only [List.cons_append,dd];rw [b6r]
theorem b0d {S:List Int} {j:Nat} {x:Int} (h:S[j]? = some x):S.take (j + 1) = S.take j ++ [x]:=by rw [List.take_add_one,h];rfl
theorem c86 {S:List Int} {j:Nat} {x y:Int} (hy:S[j]? = some y) (hx:S[j + 1]? = some x):dd (S.take (j + 2)) = dd (S.take (j + 1)) ++ if x = y then [] else [x]:=by
 rw [b0d hx,b0d hy,List.append_assoc];exact d7o _ _ _
theorem c0i:∀ (l:List Int) (p z:Int),(z = p ∨ z ∈ ddF p l) ↔ (z = p ∨ z ∈ l)
 | [],p,z=>by simp [ddF]
 | x :: l,p,z=>by
  simp only [ddF]
  by_cases h:x = p
  ·subst h
   rw [if_pos rfl,c0i l x z];simp [or_assoc]
  ·rw [if_neg h]
   simp only [List.mem_cons]
   rw [c0i l x z]
theorem e2a (l:List Int) (z:Int):z ∈ dd l ↔ z ∈ l:=by
 cases l with
 | nil=>rfl
 | cons x l=>simp only [dd,List.mem_cons];exact c0i l x z
theorem c87:∀ (l:List Int) (p:Int),(p :: l).Pairwise (·≤ ·) → (p :: ddF p l).Pairwise (·< ·)
 | [],p,_=>by simp [ddF]
 | x :: l,p,h=>by
  simp only [List.pairwise_cons,List.mem_cons] at h
  obtain ⟨h1,h2,h3⟩:=h
  simp only [ddF]
  by_cases hx:x = p
  ·subst hx
   rw [if_pos rfl]
   exact c87 l x (List.pairwise_cons.2 ⟨h2,h3⟩)
  ·rw [if_neg hx]
   have ih:=c87 l x (List.pairwise_cons.2 ⟨h2,h3⟩)
   have hpx:=h1 x (.inl rfl)
   refine List.pairwise_cons.2 ⟨fun z hz=>?_,ih⟩
   rcases List.mem_cons.1 hz with rfl|hz
   ·omega
   ·have:=(List.pairwise_cons.1 ih).1 z hz;omega
theorem e2b (l:List Int) (h:l.Pairwise (·≤ ·)):(dd l).Pairwise (·< ·):=by
 cases l with
 | nil=>exact List.Pairwise.nil
 | cons x l=>exact c87 l x h
theorem e2c (l:List Int):(dd l).length ≤ l.length:=by
 cases l with
 | nil=>exact Nat.le_refl _
 | cons x l=>
  have:∀ (l:List Int) (p:Int),(ddF p l).length ≤ l.length:=by
   intro l;induction l with
   | nil=>intro p;exact Nat.le_refl _
   | cons y l ih=>
    intro p;simp only [ddF];split
    ·have:=ih p;simp only [List.length_cons];omega
    ·have:=ih y;simp only [List.length_cons];omega
  have:=this l x
  simp only [dd,List.length_cons];omega
end Go.Pc
/- PcCrv: a row of counts, and what it sums up to. -/
namespace Go.Pc
open Go.Ax
def a5m (f:Nat → Int) (T:Nat):List (List AV):=(List.range T).map fun j=>[AV.int .i64 (f j)]
theorem a5y (f:Nat → Int) (T:Nat):(a5m f T).length = T:=by simp [a5m]
theorem a5z {f:Nat → Int} {T j:Nat} (h:j < T):(a5m f T)[j]? = some [AV.int .i64 (f j)]:=by
 unfold a5m;rw [List.getElem?_map,List.getElem?_range h];rfl
theorem b5t {f:Nat → Int} {T i:Nat} {x:Int}:(a5m f T).set i [AV.int .i64 x] = a5m (fun j=>if j = i then x else f j) T:=by
 apply List.ext_getElem?
 intro j
 by_cases hj:j < T
 ·rw [a5z hj]
  by_cases h:j = i
  ·subst h;rw [List.getElem?_set_self (by rw [a5y];exact hj),if_pos rfl]
  ·rw [List.getElem?_set_ne (Ne.symm h),a5z hj,if_neg h]
 ·rw [List.getElem?_eq_none (by rw [List.length_set,a5y];omega),List.getElem?_eq_none (by rw [a5y];omega)]
theorem a6m (f:Nat → Int) (T:Nat):FlatR (a5m f T):=FlatR.map fun _=>rfl
theorem a8h {f g:Nat → Int} {T:Nat} (h:∀ j,j < T → f j = g j):a5m f T = a5m g T:=by
 unfold a5m
 refine List.map_congr_left fun j hj=>?_
 rw [h j (List.mem_range.1 hj)]
theorem b7m (T:Nat):List.replicate T [AV.int .i64 0] = a5m (fun _=>0) T:=by
 unfold a5m
 rw [List.map_const',List.length_range]
def eqN (S:List Int) (j:Nat):Int:=(S.countP fun x=>decide (x = (j:Int)):Nat)
def leN (S:List Int) (j:Nat):Int:=(S.countP fun x=>decide (x ≤ (j:Int)):Nat)
theorem d29 (S:List Int) (i j:Nat):eqN (S ++ [(i:Int)]) j = if j = i then eqN S i + 1 else eqN S j:=by
 unfold eqN
 rw [List.countP_append]
 by_cases h:j = i
 ·subst h;rw [if_pos rfl];simp
 ·rw [if_neg h,List.countP_cons_of_neg (by simp;omega)];simp
theorem c84 (S:List Int) (j:Nat):0 ≤ eqN S j ∧ eqN S j ≤ S.length:=by
 unfold eqN
 have:=List.countP_le_length (p:=fun x=>decide (x = (j:Int))) (l:=S)
 omega
theorem c6x (S:List Int) (j:Nat):0 ≤ leN S j ∧ leN S j ≤ S.length:=by
 unfold leN
 have:=List.countP_le_length (p:=fun x=>decide (x ≤ (j:Int))) (l:=S)
 omega
theorem d17 (S:List Int) (j:Nat):leN S (j + 1) = eqN S (j + 1) + leN S j:=by
 unfold leN eqN
 induction S with
 | nil=>rfl
 | cons x l ih=>
  simp only [List.countP_cons,decide_eq_true_eq]
  by_cases h1:x = ((j + 1:Nat):Int)
  ·subst h1
   rw [if_pos (by omega),if_pos rfl,if_neg (by omega)];omega
  ·by_cases h2:x ≤ (j:Int)
   ·rw [if_pos (by omega),if_neg h1,if_pos h2];omega
   ·rw [if_neg (by omega),if_neg h1,if_neg h2];omega
theorem d16 {S:List Int} (h:∀ x ∈ S,0 ≤ x):leN S 0 = eqN S 0:=by
 unfold leN eqN
 congr 1
 refine List.countP_congr fun x hx=>?_
 have:=h x hx
 simp only [decide_eq_true_eq];omega
end Go.Pc
/- PcAny: the elements of a list that are met, each once. -/
namespace Go.Pc
def b1d (t:Int):List Int → List Int → List Int
 | l,[]=>l
 | l,x :: F=>b1d t (if 0 ≤ x ∧ x < t ∧ x ∉ l then l ++ [x] else l) F
theorem c30 (t:Int) (x:Int):∀ (F l:List Int),b1d t l (F ++ [x]) = if 0 ≤ x ∧ x < t ∧ x ∉ b1d t l F then b1d t l F ++ [x] else b1d t l F
 | [],l=>rfl
 | y :: F,l=>by simp only [List.cons_append,b1d];exact c30 t x F _
theorem b24 (t:Int) (z:Int):∀ (F l:List Int),z ∈ b1d t l F ↔ z ∈ l ∨ (z ∈ F ∧ 0 ≤ z ∧ z < t)
 | [],l=>by simp [b1d]
 | y :: F,l=>by
  simp only [b1d]
  rw [b24 t z F]
  split
  ·rename_i h
   simp only [List.mem_append,List.mem_cons,List.not_mem_nil,or_false]
   constructor
   ·rintro ((h1|rfl)|⟨h1,h2⟩)
    ·exact .inl h1
    ·exact .inr ⟨.inl rfl,h.1,h.2.1⟩
    ·exact .inr ⟨.inr h1,h2⟩
   ·rintro (h1|⟨rfl|h1,h2⟩)
    ·exact .inl (.inl h1)
    ·exact .inl (.inr rfl)
    ·exact .inr ⟨h1,h2⟩
  ·rename_i h
   simp only [List.mem_cons]
   constructor
   ·rintro (h1|⟨h1,h2⟩)
    ·exact .inl h1
    ·exact .inr ⟨.inr h1,h2⟩
   ·rintro (h1|⟨rfl|h1,h2⟩)
    ·exact .inl h1
    ·refine .inl (Decidable.byContradiction fun h3=>h ⟨h2.1,h2.2,h3⟩)
    ·exact .inr ⟨h1,h2⟩
theorem b23 (t:Int):∀ (F l:List Int),l.Nodup → (b1d t l F).Nodup
 | [],l,h=>h
 | y :: F,l,h=>by
  simp only [b1d]
  refine b23 t F _ ?_
  split
  ·rename_i hc
   rw [List.nodup_append]
   refine ⟨h,by simp,?_⟩
   intro a ha b hb
   simp only [List.mem_singleton] at hb
   subst hb
   exact fun e=>hc.2.2 (e ▸ ha)
  ·exact h
end Go.Pc
/- PcPre: the first detection: of the first tests, of a choice of tests. -/
namespace Go.Pc
def a4c (D:Nat → Bool):Nat → Int
 | 0=>-1
 | t + 1=>if a4c D t < 0 ∧ D t = true then (t:Int) else a4c D t
theorem a80 {most:Int} (D:Nat → Bool):∀ t:Nat,(t:Int) ≤ most → (a29 most D t).1 = a4c D t
 | 0,_=>rfl
 | t + 1,h=>by
  have ih:=a80 (most:=most) D t (by omega)
  have h1:=a96 most D t
  have h2:=b2r most D t
  rw [ih] at h2
  simp only [a29,a4c]
  by_cases hD:D t = true
  ·have hc:(a29 most D t).2 < most:=by omega
   by_cases h0:a4c D t < 0
   ·have hm:0 < most:=by omega
    simp only [hD,h0,h2.1 h0,hm,and_self,if_true]
   ·have h3:¬ (a29 most D t).2 = 0:=fun h=>h0 (h2.2 h)
    simp only [hD,hc,h0,h3,and_self,if_true,false_and,if_false,ih]
  ·simp only [hD,Bool.false_eq_true,and_false,if_false,ih]
theorem d7d (D:Nat → Bool):∀ t,a4c D t = -1 ∨ ∃ k:Nat,a4c D t = k ∧ k < t ∧ D k = true
 | 0=>.inl rfl
 | t + 1=>by
  simp only [a4c]
  by_cases h:a4c D t < 0 ∧ D t = true
  ·rw [if_pos h];exact .inr ⟨t,rfl,Nat.lt_succ_self t,h.2⟩
  ·rw [if_neg h]
   rcases d7d D t with h1|⟨k,h1,h2,h3⟩
   ·exact .inl h1
   ·exact .inr ⟨k,h1,by omega,h3⟩
theorem c25 (D:Nat → Bool):∀ t,a4c D t < 0 ↔ ∀ k,k < t → D k = false
 | 0=>by simp [a4c]
 | t + 1=>by
  have ih:=c25 D t
  simp only [a4c]
  by_cases h:a4c D t < 0 ∧ D t = true
  ·rw [if_pos h]
   refine ⟨fun h1=>by omega,fun h1=>?_⟩
   rw [h1 t (by omega)] at h;exact absurd h.2 (by simp)
  ·rw [if_neg h]
   constructor
   ·intro h1 k hk
    rcases Nat.lt_succ_iff_lt_or_eq.1 hk with h2|rfl
    ·exact ih.1 h1 k h2
    ·cases hd:D k with
     | false=>rfl
     | true=>exact absurd ⟨h1,hd⟩ h
   ·intro h1
    exact ih.2 fun k hk=>h1 k (by omega)
theorem e1y (D:Nat → Nat → Bool) (n T:Nat) (S:List Int) (hS:∀ z,z ∈ S ↔ (∃ i,i < n ∧ z = a4c (D i) T) ∧ 0 ≤ z ∧ z < T) (D':Nat → Nat → Bool) (hD:∀ i j z,S[j]? = some z → D' i j = D i z.toNat) (i:Nat) (hi:i < n) :
 a4c (D' i) S.length < 0 ↔ a4c (D i) T < 0:=by
 rw [c25,c25]
 constructor
 ·intro h k hk
  rcases d7d (D i) T with h1|⟨m,h1,h2,h3⟩
  ·exact (c25 (D i) T).1 (by omega) k hk
  ·have hm:(m:Int) ∈ S:=(hS m).2 ⟨⟨i,hi,h1.symm⟩,by omega,by omega⟩
   obtain ⟨j,hj,hjz⟩:=List.getElem_of_mem hm
   have h4:=h j hj
   rw [hD i j m (by rw [List.getElem?_eq_getElem hj,hjz]),Int.toNat_natCast,h3] at h4
   cases h4
 ·intro h j hj
  have hz:S[j]? = some S[j]:=List.getElem?_eq_getElem hj
  rw [hD i j _ hz]
  obtain ⟨_,h1,h2⟩:=(hS S[j]).1 (List.getElem_mem hj)
  exact h _ (by omega)
end Go.Pc
