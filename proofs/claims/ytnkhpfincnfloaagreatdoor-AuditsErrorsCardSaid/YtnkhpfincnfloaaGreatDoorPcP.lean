/- PcCir: circuits as plain data: nodes, how they are laid in cells; the small circuits of the statements. Plain definitions. -/
import Derived.Test.YtnkhpfincnfloaaGreatDoorAxD
set_option linter.unusedSimpArgs false
set_option linter.unusedVariables false
namespace Go.Pc
open Go.Ax
abbrev Rep:=Option (Option Nat)
def intR(n:Nat):List AV:=[.int .i64 n]
def u8R(n:Nat):List AV:=[.int .u8 n]
structure Nd where
 kind:Nat
 c:Rep
 ins:List Nat
 mem:Nat
 bit:Nat
def Nd.enc(x:Nd):List AV:=[.int .u8 x.kind,sl x.c (x.ins.map intR),.int .i64 x.mem,.int .i64 x.bit]
structure GX where
 kind:Nat
 i0:Nat
 i1:Nat
 i2:Nat
def GX.enc(g:GX):List AV:=[.int .u8 g.kind,.int .u8 g.i0,.int .u8 g.i1,.int .u8 g.i2]
def GX.ok(g:GX):Prop:=g.kind<256∧g.i0<256∧g.i1<256∧g.i2<256
structure CX where
 inn:Nat
 dffs:Nat
 d0:Nat
 d1:Nat
 bus:Bool
 mem:Bool
 p0:Nat
 p1:Nat
 p2:Nat
 p3:Nat
 gc:Rep
 gates:List GX
 oc:Rep
 outs:List Nat
def CX.enc(x:CX):List AV:=[.int .u8 x.inn,.int .u8 x.dffs,.int .u8 x.d0,.int .u8 x.d1,.bool x.bus,.bool x.mem,.int .u8 x.p0,.int .u8 x.p1,.int .u8 x.p2,.int .u8 x.p3,sl x.gc (x.gates.map GX.enc),sl x.oc (x.outs.map u8R)]
structure CX.ok(x:CX):Prop where
 inn:x.inn<256
 dffs:x.dffs<256
 d0:x.d0<256
 d1:x.d1<256
 gates:∀g∈x.gates,g.ok
 outs:∀o∈x.outs,o<256
def isTri(k:Nat):Bool:=k==12
def trisTo(ks:List Nat)(n:Nat):List Nat:=(List.range n).filter λi=>(ks[i]?).any isTri
def trisOf(ks:List Nat):List Nat:=trisTo ks ks.length
theorem trisTo_succ{ks:List Nat}{n k:Nat}(h:ks[n]?=some k):trisTo ks (n+1)=if k=12 then trisTo ks n++[n]else trisTo ks n:=by
 unfold trisTo;rw[List.range_succ,List.filter_append];by_cases hk:k=12
 ·subst hk;simp[h,isTri]
 ·simp[h,isTri,hk]
theorem trisTo_le(ks:List Nat)(n:Nat):(trisTo ks n).length≤n:=by unfold trisTo;exact Nat.le_trans (List.length_filter_le _ _) (by simp)
theorem trisTo_mem{ks:List Nat}{n x:Nat}(h:x∈trisTo ks n):x<n∧ks[x]?=some 12:=by
 unfold trisTo at h;rw[List.mem_filter]at h;obtain⟨h1,h2⟩:=h;refine⟨by simpa using h1,?_⟩;cases hk:ks[x]? with
 |none=>simp[hk]at h2
 |some k=>simp[hk,isTri]at h2;rw[h2]
def gateNd(bus:Bool)(g:GX)(ks:List Nat):Nd:=
 let n:=ks.length
 let a:=g.i0%n
 let b:=g.i1%n
 let d:=g.i2%n
 let tris:=trisOf ks
 let kind:=if bus then g.kind%13 else g.kind%9
 if kind<6 then(if 128≤g.kind then⟨5+kind,some none,[a,b,d],0,0⟩else⟨5+kind,some (some 2),[a,b],0,0⟩)
 else if kind=6 then⟨4,some (some 1),[a],0,0⟩
 else if kind=7 then⟨11,some (some 3),[a,b,d],0,0⟩
 else if kind=9∨kind=10 then⟨12,some (some 2),[a,b],0,0⟩
 else if 10<kind∧0<tris.length then
  (if 1<tris.length then⟨13,some none,[tris.getD (g.i0%tris.length) 0,tris.getD ((g.i0%tris.length+1)%tris.length) 0],0,0⟩
   else⟨13,some (some 1),[tris.getD (g.i0%tris.length) 0],0,0⟩)
 else if 240<g.kind then⟨1+g.i0%2,none,[],0,0⟩
 else⟨3,some (some 1),[a],0,0⟩
def gN(bus:Bool):List Nat→List GX→List Nd
 |_,[]=>[]
 |ks,g::r=>gateNd bus g ks::gN bus (ks++[(gateNd bus g ks).kind]) r
theorem gN_snoc(bus:Bool)(g:GX):∀(l:List GX) (ks:List Nat),gN bus ks (l++[g])=gN bus ks l++[gateNd bus g (ks++(gN bus ks l).map Nd.kind)]
 | [],ks=>by simp[gN]
 |a::l,ks=>by simp[gN,gN_snoc bus g l]
theorem gN_length(bus:Bool):∀(l:List GX) (ks:List Nat),(gN bus ks l).length=l.length
 | [],_=>rfl
 |a::l,ks=>by simp[gN,gN_length bus l]
def CX.k(x:CX):Nat:=x.inn%4+1
def CX.d(x:CX):Nat:=x.dffs%3
def CX.base(x:CX):List Nat:=List.replicate x.k 0++List.replicate x.d 14
def CX.gs(x:CX):List GX:=x.gates.take 8
def CX.n(x:CX):Nat:=x.k+x.d+x.gs.length
def inNd:Nd:=⟨0,none,[],0,0⟩
def dffNd(v:Nat):Nd:=⟨14,some (some 1),[v],0,0⟩
def CX.dn(x:CX):List Nd:=([x.d0,x.d1].take x.d).map λv=>dffNd (v%x.n)
def CX.nodes(x:CX):List Nd:=List.replicate x.k inNd++x.dn++gN x.bus x.base x.gs
def nameS(i:Nat):List UInt8:=[110,UInt8.ofNat (48+i/10),UInt8.ofNat (48+i%10)]
def strR(s:List UInt8):List AV:=[.str s]
def CX.names(x:CX):List (List UInt8):=(List.range x.n).map nameS
def CX.outN(x:CX):List Nat:=(x.outs.take 3).map (·% x.n)++[x.n-1]
structure Cir where
 nc:Rep
 nodes:List Nd
 mc:Rep
 names:List (List UInt8)
 oc:Rep
 outs:List Nat
def Cir.enc(c:Cir):List AV:=[sl c.nc (c.nodes.map Nd.enc),sl c.mc (c.names.map strR),.nilslice,sl c.oc (c.outs.map intR)]
def CX.cir(x:CX):Cir:=⟨some none,x.nodes,some none,x.names,some none,x.outN⟩
attribute [go_sem] strR
theorem CX.gs_take(x:CX):x.gates.take x.gs.length=x.gs:=by
 unfold CX.gs;rw[List.length_take];by_cases h:x.gates.length≤8
 ·rw[Nat.min_eq_right h,List.take_length,List.take_of_length_le h]
 ·rw[Nat.min_eq_left (by omega)]
theorem take_snoc{α:Type}{l:List α}{i:Nat}{a:α}(h:l[i]?=some a):l.take (i+1)=l.take i++[a]:=by rw[List.take_add_one,h];rfl
theorem get_rep{α:Type}(a:α)(k i:Nat)(l:List α):(List.replicate k a++l)[k+i]?=l[i]?:=by rw[List.getElem?_append_right (by simp)];simp
theorem get_rep0{α:Type}(a:α)(k:Nat)(l:List α):(List.replicate k a++l)[k]?=l[0]?:=by rw[List.getElem?_append_right (by simp)];simp
theorem set_rep{α:Type}(a v:α)(k i:Nat)(l:List α):(List.replicate k a++l).set (k+i) v=List.replicate k a++l.set i v:=by rw[List.set_append_right _ _ (by simp)];simp
theorem set_rep0{α:Type}(a v:α)(k:Nat)(l:List α):(List.replicate k a++l).set k v=List.replicate k a++l.set 0 v:=by rw[List.set_append_right _ _ (by simp)];simp
def KindRows(R:List (List AV))(ks:List Nat):Prop:=R.length=ks.length∧∀(i k:Nat),ks[i]?=some k→∃v x y,R[i]?=some [.int .u8 k,v,x,y]
def FixR(m:Nat)(R:List (List AV)):Prop:=∀π:Nat→Option Nat,(∀b,b<m→π b=some b)→R.map (λr=>r.map (ren π))=R
theorem KindRows.append{R R':List (List AV)}{ks ks':List Nat}(h:KindRows R ks)(h':KindRows R' ks'):KindRows (R++R') (ks++ks'):=by
 refine⟨by simp[h.1,h'.1],λi k hk=>?_⟩;by_cases hi:i<ks.length
 ·rw[List.getElem?_append_left hi]at hk;rw[List.getElem?_append_left (by rw[h.1];exact hi)];exact h.2 i k hk
 ·rw[List.getElem?_append_right (by omega)]at hk;rw[List.getElem?_append_right (by rw[h.1];omega),h.1];exact h'.2 _ k hk
theorem KindRows.nil:KindRows [] []:=⟨rfl,λi k h=>by simp at h⟩
theorem KindRows.cons{k:Nat}{v x y:AV}{R:List (List AV)}{ks:List Nat}(h:KindRows R ks):KindRows ([.int .u8 k,v,x,y]::R) (k::ks):=by
 refine⟨by simp[h.1],λi q hq=>?_⟩;cases i with
 |zero=>simp only[List.getElem?_cons_zero,Option.some.injEq]at hq⊢;subst hq;exact⟨v,x,y,rfl⟩
 |succ i=>simp only[List.getElem?_cons_succ]at hq⊢;exact h.2 i q hq
theorem KindRows.rep(n k:Nat)(v x y:AV):KindRows (List.replicate n [.int .u8 k,v,x,y]) (List.replicate n k):=by
 induction n with
 |zero=>exact KindRows.nil
 |succ n ih=>rw[List.replicate_succ,List.replicate_succ];exact ih.cons
theorem KindRows.nds:∀l:List Nd,KindRows (l.map Nd.enc) (l.map Nd.kind)
 | []=>KindRows.nil
 |_::l=>(KindRows.nds l).cons
theorem FixR.append{m:Nat}{R R':List (List AV)}(h:FixR m R)(h':FixR m R'):FixR m (R++R'):=by intro π hπ;rw[List.map_append,h π hπ,h' π hπ]
theorem FixR.flat{m:Nat}{R:List (List AV)}(h:FlatR R):FixR m R:=λπ _=>renR_flat π h
theorem flatNd(l:List Nd):FlatR (l.map Nd.enc):=FlatR.map λx=>by simp only[Nd.enc,refsL,refs_sl,refs];rfl
attribute [go_sem] Nd.enc GX.enc CX.enc intR u8R List.length_map List.getElem?_map
end Go.Pc
/- PcMem: circuits with a memory as plain data. Plain definitions. -/
namespace Go.Pc
open Go.Ax
def mNd(b:Nat):Nd:=⟨15,none,[],0,b⟩
def mN:List Nd:=[mNd 0,mNd 1]
def CX.baseM(x:CX):List Nat:=x.base++[15,15]
def CX.nM(x:CX):Nat:=x.k+(x.d+2)+x.gs.length
def CX.dnM(x:CX):List Nd:=([x.d0,x.d1].take x.d).map λv=>dffNd (v%x.nM)
def CX.nodesM(x:CX):List Nd:=List.replicate x.k inNd++x.dnM++mN++gN x.bus x.baseM x.gs
def CX.outNM(x:CX):List Nat:=(x.outs.take 3).map (·% x.nM)++[x.nM-1]
def CX.cirM(x:CX):Cir:=⟨some none,x.nodesM,some none,(List.range x.nM).map nameS,some none,x.outNM⟩
structure Mm where
 a:Nat
 d0:Nat
 d1:Nat
 w:Nat
def CX.memA(x:CX):Mm:=⟨x.p0%x.nM,x.p1%x.nM,x.p2%x.nM,x.p3%x.nM⟩
def memV(m:Mm):AV:=.islice [[.islice [[.int .i64 m.a]] (some 1),.islice [[.int .i64 m.d0],[.int .i64 m.d1]] (some 2),.int .i64 m.w]] (some 1)
def encM(c:Cir)(m:Mm):List AV:=[sl c.nc (c.nodes.map Nd.enc),sl c.mc (c.names.map strR),memV m,sl c.oc (c.outs.map intR)]
end Go.Pc
