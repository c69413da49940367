/- PcWord: words of 64 values as bfm data. Plain definitions. -/
import Derived.Test.YtllalbnibhofiaaGreatDoorPcCir
import Derived.Test.YtllalbnibhofiaaGreatDoorAxE
set_option linter.unusedSimpArgs false
set_option linter.unusedVariables false
namespace Go.Pc
open Go.Ax
structure W where
 one:BitVec 64
 zero:BitVec 64
def W.enc (w:W):List AV:=[u64 w.one,u64 w.zero]
attribute [go_sem] W.enc
def ac9 (v:Nat):Nat:=if 3 < v then 2 else v
def acu (v:Nat):W:=match ac9 v with
 | 0=>⟨0#64,BitVec.allOnes 64⟩
 | 1=>⟨BitVec.allOnes 64,0#64⟩
 | 2=>⟨0#64,0#64⟩
 | _=>⟨BitVec.allOnes 64,BitVec.allOnes 64⟩
def beo (a b:W):W:=⟨a.one &&& b.one,a.zero ||| b.zero⟩
def wOr (a b:W):W:=⟨a.one ||| b.one,a.zero &&& b.zero⟩
def ben (a b:W):W:=⟨a.one &&& b.zero ||| a.zero &&& b.one,a.one &&& b.one ||| a.zero &&& b.zero⟩
def agj (f:W → W → W) (z:W) (l:List W):W:=l.foldl f z
def af7 (w:W):W:=⟨w.one &&& ~~~(w.one &&& w.zero),w.zero &&& ~~~(w.one &&& w.zero)⟩
def bie (w:W):W:=⟨w.zero,w.one⟩
def bns (s a b:W):W:=⟨s.zero &&& a.one ||| s.one &&& b.one ||| a.one &&& b.one,s.zero &&& a.zero ||| s.one &&& b.zero ||| a.zero &&& b.zero⟩
def bnr (e d:W):W:=⟨e.zero ||| e.one &&& d.one,e.zero ||| e.one &&& d.zero⟩
def bmq (s:BitVec 64 × BitVec 64 × BitVec 64) (w:W):BitVec 64 × BitVec 64 × BitVec 64:=(s.1 ||| (w.one &&& ~~~w.zero),s.2.1 ||| (w.zero &&& ~~~w.one),s.2.2 ||| ~~~(w.one ||| w.zero))
def azw (l:List W):BitVec 64 × BitVec 64 × BitVec 64:=l.foldl bmq (BitVec.ofInt 64 0,BitVec.ofInt 64 0,BitVec.ofInt 64 0)
def bqq (s:BitVec 64 × BitVec 64 × BitVec 64):W:=⟨~~~s.2.1 &&& ~~~(s.2.2 ||| (s.1 &&& s.2.1)),~~~s.1 &&& ~~~(s.2.2 ||| (s.1 &&& s.2.1))⟩
def baf (l:List W):W:=bqq (azw l)
theorem au8 {l:List W} {i:Nat} {x:W} (h:l[i]? = some x):azw (l.take (i + 1)) = bmq (azw (l.take i)) x:=by
 unfold azw;rw [aay h,List.foldl_append];rfl
theorem al8 {f:W → W → W} {z:W} {l:List W} {i:Nat} {x:W} (h:l[i]? = some x):agj f z (l.take (i + 1)) = f (agj f z (l.take i)) x:=by
 unfold agj;rw [aay h,List.foldl_append];rfl
theorem bm8 (l:List W):FlatR (l.map W.enc):=FlatR.map fun _=>rfl
theorem adm (l:List W):(l.map W.enc).flatMap aab = []:=aah (bm8 l)
theorem afl (π:Nat → Option Nat) (l:List W):(l.map W.enc).map (fun r=>r.map (ren π)) = l.map W.enc:=aae π (bm8 l)
attribute [go_sem] adm afl
def abl (k:Nat):Nat:=[0,0,0,1,1,2,2,2,2,2,2,3,2,1,1,0].getD k 0
def abm (k:Nat):Nat:=[0,0,0,1,1,16,16,16,16,16,16,3,2,16,1,0].getD k 0
def zW:W:=⟨0#64,0#64⟩
def abx (k:Nat) (r:List W):W:=match k with
 | 1=>acu 0
 | 2=>acu 1
 | 3=>r.getD 0 zW
 | 4=>bie (r.getD 0 zW)
 | 5=>agj beo (acu 1) r
 | 6=>bie (agj beo (acu 1) r)
 | 7=>agj wOr (acu 0) r
 | 8=>bie (agj wOr (acu 0) r)
 | 9=>agj ben (acu 0) r
 | 10=>bie (agj ben (acu 0) r)
 | 11=>bns (r.getD 0 zW) (r.getD 1 zW) (r.getD 2 zW)
 | 12=>bnr (r.getD 0 zW) (r.getD 1 zW)
 | _=>acu 2
def ae5 (k:Nat) (l:List W):W:=
 if l.length < abl k ∨ abm k < l.length then acu 2
 else if k = 13 then baf l
 else abx k (l.map af7)
def rdW (l:List W) (i:Nat):List W:=(l.take i).map af7 ++ List.replicate (l.length - i) zW
theorem awl (l:List W):rdW l 0 = List.replicate l.length zW:=by simp [rdW]
theorem bbd (l:List W):rdW l l.length = l.map af7:=by simp [rdW]
theorem bbc {l:List W} {i:Nat} (h:i < l.length):(rdW l i)[i]? = some zW:=by
 unfold rdW
 rw [List.getElem?_append_right (by simp;omega)]
 simp [List.getElem?_replicate]
 omega
theorem bkr {l:List W} {i:Nat} {x:W} (h:l[i]? = some x):(rdW l i).set i (af7 x) = rdW l (i + 1):=by
 have hi:=(List.getElem?_eq_some_iff.1 h).1
 unfold rdW
 rw [List.set_append_right _ _ (by simp;omega),aay h,List.map_append,List.append_assoc]
 congr 1
 have e:l.length - i = (l.length - (i + 1)) + 1:=by omega
 rw [e,List.replicate_succ]
 have e2:i - ((l.take i).map af7).length = 0:=by simp;omega
 rw [e2]
 rfl
theorem awm {l:List W} {i:Nat} {x:W} (h:l[i]? = some x):((rdW l i).map W.enc).set i [u64 (af7 x).one,u64 (af7 x).zero] = (rdW l (i + 1)).map W.enc:=by
 rw [← bkr h,List.map_set];rfl
def bms (n:Nat):BitVec 64:=BitVec.ofInt 64 1 <<< n
def alx (w:W) (n v:Nat):W:=⟨w.one &&& ~~~bms n ||| (acu v).one &&& bms n,w.zero &&& ~~~bms n ||| (acu v).zero &&& bms n⟩
def abr (k:Nat):Bool:=decide (1 ≤ k) && decide (k ≤ 13)
end Go.Pc
/- PcSim: one cycle of a circuit, over words or over single values; lanes of words are single values. Plain definitions. -/
namespace Go.Pc
open Go.Ax
structure Alg (α:Type) where
 ev:Nat → List α → α
 z:α
 fill:Nat → α
structure Hk (α:Type) where
 net:Nat → α → α
 pin:Nat → Nat → α → α
structure Flt where
 model:Nat
 node:Nat
 pin:Int
 value:Nat
 other:Nat
def Flt.enc (f:Flt):List AV:=[.int .u8 f.model,.int .i64 f.node,.int .i64 f.pin,.int .u8 f.value,.int .i64 f.other]
structure Pat where
 ic:Rep
 ins:List Nat
 sc:Rep
 sts:List Nat
def Pat.enc (p:Pat):List AV:=[sl p.ic (p.ins.map u8R),sl p.sc (p.sts.map u8R)]
section
variable {α:Type} (A:Alg α) (nodes:List Nd) (h:Hk α)
def aaq (nodes:List Nd) (n:Nat):Nat:=(nodes[n]?.map Nd.kind).getD 0
def ac5 (nodes:List Nd) (n:Nat):List Nat:=(nodes[n]?.map Nd.ins).getD []
def ad6 (n:Nat) (nets:List α):Nat → List Nat → List α
 | _,[]=>[]
 | p,m :: r=>h.pin n p (nets.getD m A.z) :: ad6 n nets (p + 1) r
def aap (nets:List α) (n:Nat):List α:=ad6 A h n nets 0 (ac5 nodes n)
def stepG (nets:List α) (n:Nat):List α:=
 nets.set n (h.net n (if aaq nodes n ≠ 0 ∧ aaq nodes n ≠ 14 then A.ev (aaq nodes n) (aap A nodes h nets n) else nets.getD n A.z))
def abi (nets:List α):List Nat → List α → List α
 | i :: is,v :: vs=>abi (nets.set i v) is vs
 | _,_=>nets
def amf (ord ins sts:List Nat) (vi vs:List α):List α:=
 ord.foldl (stepG A nodes h) (abi (abi (List.replicate nodes.length A.z) ins vi) sts vs)
def anc (outs sts:List Nat) (nets:List α):List α:=
 outs.map (fun n=>nets.getD n A.z) ++ sts.map (fun n=>(aap A nodes h nets n).getD 0 A.z)
def hk0:Hk α:=⟨fun _ w=>w,fun _ _ w=>w⟩
def ab0 (good:List α) (f:Flt):α:=
 if f.model = 0 then A.fill f.value
 else if f.model = 3 then good.getD f.other A.z
 else if f.value = 0 then A.ev 5 [good.getD f.node A.z,good.getD f.other A.z]
 else A.ev 7 [good.getD f.node A.z,good.getD f.other A.z]
def Flt.hitsNet (f:Flt) (n:Nat):Bool:=decide (f.pin < 0) && (decide (n = f.node) || (decide (f.model = 2) && decide (n = f.other)))
def Flt.hitsPin (f:Flt) (n p:Nat):Bool:=decide (0 ≤ f.pin) && (decide (n = f.node) && decide ((p:Int) = f.pin))
def hkF (f:Flt) (v:α):Hk α:=⟨fun n w=>if f.hitsNet n then v else w,fun n p w=>if f.hitsPin n p then v else w⟩
end
structure Hom {α β:Type} (A:Alg α) (B:Alg β) (φ:α → β):Prop where
 ev:∀ k l,φ (A.ev k l) = B.ev k (l.map φ)
 z:φ A.z = B.z
 fill:∀ v,φ (A.fill v) = B.fill v
structure HkHom {α β:Type} (φ:α → β) (h:Hk α) (k:Hk β):Prop where
 net:∀ n w,φ (h.net n w) = k.net n (φ w)
 pin:∀ n p w,φ (h.pin n p w) = k.pin n p (φ w)
section
variable {α β:Type} {A:Alg α} {B:Alg β} {φ:α → β} (hφ:Hom A B φ) {nodes:List Nd} {h:Hk α} {k:Hk β} (hk:HkHom φ h k)
include hφ
theorem ahy (l:List α) (n:Nat):φ (l.getD n A.z) = (l.map φ).getD n B.z:=by
 simp only [List.getD_eq_getElem?_getD,List.getElem?_map]
 cases l[n]? with
 | none=>exact hφ.z
 | some x=>rfl
include hk
theorem ani (n:Nat) (nets:List α):∀ (l:List Nat) (p:Nat),(ad6 A h n nets p l).map φ = ad6 B k n (nets.map φ) p l
 | [],_=>rfl
 | m :: r,p=>by simp only [ad6,List.map_cons,hk.pin,ahy hφ,ani n nets r (p + 1)]
theorem aq4 (nets:List α) (n:Nat):(aap A nodes h nets n).map φ = aap B nodes k (nets.map φ) n:=ani hφ hk n nets _ 0
theorem baq (nets:List α) (n:Nat):(stepG A nodes h nets n).map φ = stepG B nodes k (nets.map φ) n:=by
 unfold stepG
 rw [List.map_set,hk.net]
 congr 2
 split
 ·rw [hφ.ev,aq4 hφ hk]
 ·exact ahy hφ _ _
omit hk in
omit hφ in
theorem anv:∀ (is:List Nat) (vs:List α) (nets:List α),(abi nets is vs).map φ = abi (nets.map φ) is (vs.map φ)
 | [],vs,nets=>by cases vs<;>rfl
 | i :: is,[],nets=>rfl
 | i :: is,v :: vs,nets=>by simp only [abi,List.map_cons,anv is vs,List.map_set]
theorem ake (ord ins sts:List Nat) (vi vs:List α):(amf A nodes h ord ins sts vi vs).map φ = amf B nodes k ord ins sts (vi.map φ) (vs.map φ):=by
 unfold amf
 have key:∀ (ord:List Nat) (n0:List α),(ord.foldl (stepG A nodes h) n0).map φ = ord.foldl (stepG B nodes k) (n0.map φ):=by
  intro ord
  induction ord with
  | nil=>intro n0;rfl
  | cons a l ih=>intro n0;simp only [List.foldl_cons,ih,baq hφ hk]
 rw [key,anv,anv,List.map_replicate,hφ.z]
theorem ak6 (outs sts:List Nat) (nets:List α):(anc A nodes h outs sts nets).map φ = anc B nodes k outs sts (nets.map φ):=by
 unfold anc
 simp only [List.map_append,List.map_map]
 congr 1
 ·exact List.map_congr_left fun n _=>ahy hφ _ _
 ·refine List.map_congr_left fun n _=>?_
  simp only [Function.comp,ahy hφ,aq4 hφ hk]
omit hk in
theorem aqm (good:List α) (f:Flt):φ (ab0 A good f) = ab0 B (good.map φ) f:=by
 unfold ab0
 split
 ·exact hφ.fill _
 split
 ·exact ahy hφ _ _
 split
 ·rw [hφ.ev];simp only [List.map_cons,List.map_nil,ahy hφ]
 ·rw [hφ.ev];simp only [List.map_cons,List.map_nil,ahy hφ]
omit hk hφ in
theorem arz:HkHom φ (hk0:Hk α) (hk0:Hk β):=⟨fun _ _=>rfl,fun _ _ _=>rfl⟩
omit hk hφ in
theorem avq (f:Flt) (v:α):HkHom φ (hkF f v) (hkF f (φ v)):=⟨fun n w=>by unfold hkF;dsimp only;split<;>rfl,fun n p w=>by unfold hkF;dsimp only;split<;>rfl⟩
end
/-! ### single values -/
abbrev V2:=Bool × Bool
def aal (v:Nat):V2:=match ac9 v with
 | 0=>(false,true)
 | 1=>(true,false)
 | 2=>(false,false)
 | _=>(true,true)
def aut (a b:V2):V2:=(a.1 && b.1,a.2 || b.2)
def vOr (a b:V2):V2:=(a.1 || b.1,a.2 && b.2)
def aur (a b:V2):V2:=(a.1 && b.2 || a.2 && b.1,a.1 && b.1 || a.2 && b.2)
def ar3 (w:V2):V2:=(w.1 && !(w.1 && w.2),w.2 && !(w.1 && w.2))
def ba7 (w:V2):V2:=(w.2,w.1)
def bnu (s a b:V2):V2:=(s.2 && a.1 || s.1 && b.1 || a.1 && b.1,s.2 && a.2 || s.1 && b.2 || a.2 && b.2)
def bnt (e d:V2):V2:=(e.2 || e.1 && d.1,e.2 || e.1 && d.2)
def ar2 (s:Bool × Bool × Bool) (w:V2):Bool × Bool × Bool:=(s.1 || (w.1 && !w.2),s.2.1 || (w.2 && !w.1),s.2.2 || !(w.1 || w.2))
def bju (s:Bool × Bool × Bool):V2:=(!s.2.1 && !(s.2.2 || (s.1 && s.2.1)),!s.1 && !(s.2.2 || (s.1 && s.2.1)))
def bp1 (l:List V2):V2:=bju (l.foldl ar2 (false,false,false))
def awb (k:Nat) (r:List V2):V2:=match k with
 | 1=>aal 0
 | 2=>aal 1
 | 3=>r.getD 0 (false,false)
 | 4=>ba7 (r.getD 0 (false,false))
 | 5=>r.foldl aut (aal 1)
 | 6=>ba7 (r.foldl aut (aal 1))
 | 7=>r.foldl vOr (aal 0)
 | 8=>ba7 (r.foldl vOr (aal 0))
 | 9=>r.foldl aur (aal 0)
 | 10=>ba7 (r.foldl aur (aal 0))
 | 11=>bnu (r.getD 0 (false,false)) (r.getD 1 (false,false)) (r.getD 2 (false,false))
 | 12=>bnt (r.getD 0 (false,false)) (r.getD 1 (false,false))
 | _=>aal 2
def aus (k:Nat) (l:List V2):V2:=
 if l.length < abl k ∨ abm k < l.length then aal 2
 else if k = 13 then bp1 l
 else awb k (l.map ar3)
def abq:Alg W:=⟨ae5,zW,acu⟩
def vAlg:Alg V2:=⟨aus,(false,false),aal⟩
def adb (j:Nat) (w:W):V2:=(w.one.getLsbD j,w.zero.getLsbD j)
section
variable {j:Nat} (hj:j < 64)
include hj
theorem akj (v:Nat):adb j (acu v) = aal v:=by
 have ha:(BitVec.allOnes 64).getLsbD j = true:=by rw [BitVec.getLsbD_allOnes];simpa using hj
 have hz:(0#64).getLsbD j = false:=BitVec.getLsbD_zero
 unfold acu aal
 split<;>simp only [adb,ha,hz, *]
theorem bc9 (w:W):adb j (af7 w) = ar3 (adb j w):=by
 simp [af7,ar3,adb,hj]
omit hj in
theorem bga (a b:W):adb j (beo a b) = aut (adb j a) (adb j b):=by simp [beo,aut,adb]
omit hj in
theorem blm (a b:W):adb j (wOr a b) = vOr (adb j a) (adb j b):=by simp [wOr,vOr,adb]
omit hj in
theorem bg5 (a b:W):adb j (ben a b) = aur (adb j a) (adb j b):=by simp [ben,aur,adb]
omit hj in
theorem bg7 (a:W):adb j (bie a) = ba7 (adb j a):=rfl
omit hj in
theorem bg8 (s a b:W):adb j (bns s a b) = bnu (adb j s) (adb j a) (adb j b):=by simp [bns,bnu,adb]
omit hj in
theorem bg6 (a b:W):adb j (bnr a b) = bnt (adb j a) (adb j b):=by simp [bnr,bnt,adb]
omit hj in
theorem aki {f:W → W → W} {g:V2 → V2 → V2} (h:∀ a b,adb j (f a b) = g (adb j a) (adb j b)):∀ (l:List W) (z:W),adb j (l.foldl f z) = (l.map (adb j)).foldl g (adb j z)
 | [],_=>rfl
 | a :: l,z=>by simp only [List.foldl_cons,List.map_cons,aki h l,h]
def atg (j:Nat) (s:BitVec 64 × BitVec 64 × BitVec 64):Bool × Bool × Bool:=(s.1.getLsbD j,s.2.1.getLsbD j,s.2.2.getLsbD j)
theorem bcc (s:BitVec 64 × BitVec 64 × BitVec 64) (w:W):atg j (bmq s w) = ar2 (atg j s) (adb j w):=by
 simp [atg,bmq,ar2,adb,hj]
theorem bcd (s:BitVec 64 × BitVec 64 × BitVec 64):adb j (bqq s) = bju (atg j s):=by
 simp [atg,bqq,bju,adb,hj]
theorem bg9 (l:List W):adb j (baf l) = bp1 (l.map (adb j)):=by
 unfold baf bp1 azw
 rw [bcd hj]
 congr 1
 have key:∀ (l:List W) s,atg j (l.foldl bmq s) = (l.map (adb j)).foldl ar2 (atg j s):=by
  intro l
  induction l with
  | nil=>intro s;rfl
  | cons a l ih=>intro s;simp only [List.foldl_cons,List.map_cons,ih,bcc hj]
 rw [key]
 congr 1
 simp [atg]
omit hj in
theorem bca (l:List W) (n:Nat):adb j (l.getD n zW) = (l.map (adb j)).getD n (false,false):=by
 simp only [List.getD_eq_getElem?_getD,List.getElem?_map]
 cases l[n]? with
 | none=>simp [adb,zW]
 | some x=>rfl
theorem az1 (k:Nat) (l:List W):adb j (abx k l) = awb k (l.map (adb j)):=by
 unfold abx awb
 split<;>simp only [akj hj,bg7,bg8,bg6,bca,agj,aki bga,aki blm,aki bg5]
theorem bcb (k:Nat) (l:List W):adb j (ae5 k l) = aus k (l.map (adb j)):=by
 unfold ae5 aus
 rw [List.length_map]
 split
 ·exact akj hj 2
 split
 ·exact bg9 hj l
 ·rw [az1 hj,List.map_map,List.map_map]
  congr 1
  exact List.map_congr_left fun w _=>bc9 hj w
theorem bln:Hom abq vAlg (adb j):=⟨bcb hj,by simp [abq,vAlg,adb,zW],akj hj⟩
end
/-! ### contradictions -/
def ctr (x y:W):BitVec 64:=(x.one &&& ~~~x.zero &&& y.zero &&& ~~~y.one) ||| (x.zero &&& ~~~x.one &&& y.one &&& ~~~y.zero)
def br8 (x y:V2):Bool:=(x.1 && !x.2 && y.2 && !y.1) || (x.2 && !x.1 && y.1 && !y.2)
def asb:List W → List W → BitVec 64 → BitVec 64
 | x :: xs,y :: ys,s=>asb xs ys (s ||| ctr x y)
 | _,_,s=>s
def asn:List V2 → List V2 → Bool → Bool
 | x :: xs,y :: ys,s=>asn xs ys (s || br8 x y)
 | _,_,s=>s
theorem atf {j:Nat} (hj:j < 64):∀ (a b:List W) (s:BitVec 64),(asb a b s).getLsbD j = asn (a.map (adb j)) (b.map (adb j)) (s.getLsbD j)
 | [],b,s=>by cases b<;>rfl
 | x :: xs,[],s=>rfl
 | x :: xs,y :: ys,s=>by
  simp only [asb,asn,List.map_cons,atf hj xs ys]
  congr 1
  simp [ctr,br8,adb,hj]
/-! ### a circuit -/
structure Sim where
 nodes:List Nd
 ord:List Nat
 ins:List Nat
 sts:List Nat
 outs:List Nat
section
variable {α:Type} (A:Alg α) (S:Sim)
def Sim.nets (h:Hk α) (vi vs:List α):List α:=amf A S.nodes h S.ord S.ins S.sts vi vs
def Sim.seen (h:Hk α) (nets:List α):List α:=anc A S.nodes h S.outs S.sts nets
end
def Sim.det (S:Sim) (f:Flt) (p:Pat):Bool:=
 let vi:=p.ins.map aal
 let vs:=p.sts.map aal
 let good:=S.nets vAlg hk0 vi vs
 let h:=hkF f (ab0 vAlg good f)
 asn (S.seen vAlg hk0 good) (S.seen vAlg h (S.nets vAlg h vi vs)) false
end Go.Pc
/- PcWf: the circuits of the statements are valid. Plain. -/
namespace Go.Pc
open Go.Ax
structure Cir.wf (c:Cir):Prop where
 pos:0 < c.nodes.length
 len:c.nodes.length ≤ 14
 names:c.names = (List.range c.nodes.length).map adf
 kind:∀ x ∈ c.nodes,x.kind ≤ 14
 lo:∀ x ∈ c.nodes,abl x.kind ≤ x.ins.length
 hi:∀ x ∈ c.nodes,x.ins.length ≤ abm x.kind
 ins:∀ x ∈ c.nodes,∀ m ∈ x.ins,m < c.nodes.length
 bus:∀ x ∈ c.nodes,x.kind = 13 → ∀ m ∈ x.ins,aaq c.nodes m = 12
 mem:∀ x ∈ c.nodes,x.mem = 0 ∧ x.bit = 0
 acyc:∀ (i:Nat) (x:Nd),c.nodes[i]? = some x → abr x.kind = true → ∀ m ∈ x.ins,m < i
 outs:∀ o ∈ c.outs,o < c.nodes.length
 outl:c.outs.length ≤ 4
theorem bmb {k:Nat} (h:k < 6):abl (5 + k) = 2 ∧ abm (5 + k) = 16:=by
 have:k = 0 ∨ k = 1 ∨ k = 2 ∨ k = 3 ∨ k = 4 ∨ k = 5:=by omega
 rcases this with rfl|rfl|rfl|rfl|rfl|rfl<;>exact ⟨rfl,rfl⟩
structure GateOk (ks:List Nat) (x:Nd):Prop where
 k1:1 ≤ x.kind
 k13:x.kind ≤ 13
 lo:abl x.kind ≤ x.ins.length
 hi:x.ins.length ≤ abm x.kind
 ins:∀ m ∈ x.ins,m < ks.length
 bus:x.kind = 13 → ∀ m ∈ x.ins,ks[m]? = some 12
 mem:x.mem = 0 ∧ x.bit = 0
theorem awd {ks:List Nat} {i:Nat} (h:i < (aje ks).length):(aje ks).getD i 0 < ks.length ∧ ks[(aje ks).getD i 0]? = some 12:=by
 have:(aje ks).getD i 0 ∈ aje ks:=by
  rw [List.getD,List.getElem?_eq_getElem h];exact List.getElem_mem h
 exact aya this
theorem bct (bus:Bool) (g:GX) (ks:List Nat) (hp:0 < ks.length):GateOk ks (aao bus g ks):=by
 have a:=Nat.mod_lt g.i0 hp
 have b:=Nat.mod_lt g.i1 hp
 have d:=Nat.mod_lt g.i2 hp
 unfold aao
 dsimp only
 generalize (if bus = true then g.kind % 13 else g.kind % 9) = kind
 split
 ·rename_i h6
  obtain ⟨e1,e2⟩:=bmb h6
  split
  ·exact ⟨by dsimp only;omega,by dsimp only;omega,by simp [e1],by simp [e2],by simp [a,b,d],by dsimp only;omega,⟨rfl,rfl⟩⟩
  ·exact ⟨by dsimp only;omega,by dsimp only;omega,by simp [e1],by simp [e2],by simp [a,b],by dsimp only;omega,⟨rfl,rfl⟩⟩
 split
 ·exact ⟨by dsimp only;omega,by dsimp only;omega,by simp [abl],by simp [abm],by simp [a],by simp,⟨rfl,rfl⟩⟩
 split
 ·exact ⟨by dsimp only;omega,by dsimp only;omega,by simp [abl],by simp [abm],by simp [a,b,d],by simp,⟨rfl,rfl⟩⟩
 split
 ·exact ⟨by dsimp only;omega,by dsimp only;omega,by simp [abl],by simp [abm],by simp [a,b],by simp,⟨rfl,rfl⟩⟩
 split
 ·rename_i h
  have t0:=awd (Nat.mod_lt g.i0 h.2)
  split
  ·have t1:=awd (Nat.mod_lt (g.i0 % (aje ks).length + 1) h.2)
   refine ⟨by dsimp only;omega,by dsimp only;omega,by simp [abl],by simp [abm],?_,?_,⟨rfl,rfl⟩⟩
   ·intro m hm;simp only [List.mem_cons,List.not_mem_nil,or_false] at hm;rcases hm with rfl|rfl;exact t0.1;exact t1.1
   ·intro _ m hm;simp only [List.mem_cons,List.not_mem_nil,or_false] at hm;rcases hm with rfl|rfl;exact t0.2;exact t1.2
  ·refine ⟨by dsimp only;omega,by dsimp only;omega,by simp [abl],by simp [abm],?_,?_,⟨rfl,rfl⟩⟩
   ·intro m hm;simp only [List.mem_cons,List.not_mem_nil,or_false] at hm;subst hm;exact t0.1
   ·intro _ m hm;simp only [List.mem_cons,List.not_mem_nil,or_false] at hm;subst hm;exact t0.2
 split
 ·have:g.i0 % 2 = 0 ∨ g.i0 % 2 = 1:=by omega
  rcases this with h|h<;>rw [h]<;>exact ⟨by dsimp only;omega,by dsimp only;omega,by simp [abl],by simp [abm],by simp,by simp,⟨rfl,rfl⟩⟩
 ·exact ⟨by dsimp only;omega,by dsimp only;omega,by simp [abl],by simp [abm],by simp [a],by simp,⟨rfl,rfl⟩⟩
theorem bj4 (bus:Bool):∀ (l:List GX) (ks:List Nat) (i:Nat) (x:Nd),(gN bus ks l)[i]? = some x → ∃ g,x = aao bus g (ks ++ ((gN bus ks l).take i).map Nd.kind)
 | [],ks,i,x,h=>by simp [gN] at h
 | g :: l,ks,0,x,h=>by simp only [gN,List.getElem?_cons_zero,Option.some.injEq] at h;exact ⟨g,by rw [← h];simp⟩
 | g :: l,ks,i + 1,x,h=>by
  simp only [gN,List.getElem?_cons_succ] at h
  obtain ⟨g',hg⟩:=bj4 bus l _ i x h
  exact ⟨g',by rw [hg];simp [gN]⟩
theorem CX.dn_len (x:CX):x.dn.length = x.d:=by
 have:x.d < 3:=Nat.mod_lt _ (by omega)
 unfold CX.dn;rw [List.length_map,List.length_take];simp;omega
theorem CX.nodes_len (x:CX):x.nodes.length = x.n:=by
 unfold CX.nodes CX.n
 rw [List.length_append,List.length_append,List.length_replicate,x.dn_len,afa]
theorem CX.dn_kind (x:CX):x.dn.map Nd.kind = List.replicate x.d 14:=by
 have:x.d = 0 ∨ x.d = 1 ∨ x.d = 2:=by have:x.d < 3:=Nat.mod_lt _ (by omega);omega
 unfold CX.dn
 rcases this with h|h|h<;>rw [h]<;>rfl
theorem CX.base_len (x:CX):x.base.length = x.k + x.d:=by unfold CX.base;simp
theorem CX.kinds (x:CX):x.nodes.map Nd.kind = x.base ++ (gN x.bus x.base x.gs).map Nd.kind:=by
 unfold CX.nodes CX.base
 rw [List.map_append,List.map_append,List.map_replicate,x.dn_kind]
 rfl
theorem CX.node_cases (x:CX) {i:Nat} {nd:Nd} (h:x.nodes[i]? = some nd):nd = ak1 ∨ (∃ v,nd = ae3 (v % x.n)) ∨ GateOk ((x.nodes.map Nd.kind).take i) nd:=by
 unfold CX.nodes at h
 by_cases h1:i < x.k
 ·rw [List.append_assoc,List.getElem?_append_left (by simpa using h1),List.getElem?_replicate,if_pos h1] at h
  exact .inl (Option.some.inj h).symm
 rw [List.append_assoc,List.getElem?_append_right (by simpa using h1),List.length_replicate] at h
 by_cases h2:i - x.k < x.d
 ·rw [List.getElem?_append_left (by rw [x.dn_len];exact h2)] at h
  unfold CX.dn at h
  rw [List.getElem?_map] at h
  cases hv:([x.d0,x.d1].take x.d)[i - x.k]? with
  | none=>rw [hv] at h;cases h
  | some v=>rw [hv] at h;exact .inr (.inl ⟨v,(Option.some.inj h).symm⟩)
 ·rw [List.getElem?_append_right (by rw [x.dn_len];omega),x.dn_len] at h
  obtain ⟨g,hg⟩:=bj4 _ _ _ _ _ h
  refine .inr (.inr ?_)
  have e:(x.nodes.map Nd.kind).take i = x.base ++ ((gN x.bus x.base x.gs).take (i - x.k - x.d)).map Nd.kind:=by
   rw [x.kinds,List.take_append,List.take_of_length_le (by rw [x.base_len];omega),x.base_len,List.map_take]
   congr 2;omega
  rw [e,hg]
  exact bct _ _ _ (by
   rw [List.length_append,x.base_len];have:0 < x.k:=by unfold CX.k;omega
   omega)
theorem CX.wf (x:CX):x.cir.wf:=by
 have hn:=x.nodes_len
 have hk:x.k ≤ 4 ∧ 0 < x.k:=by unfold CX.k;omega
 have hd:x.d < 3:=Nat.mod_lt _ (by omega)
 have hg:x.gs.length ≤ 8:=by unfold CX.gs;rw [List.length_take];omega
 have hnn:x.n = x.k + x.d + x.gs.length:=rfl
 have key:∀ nd ∈ x.nodes,∃ i,x.nodes[i]? = some nd ∧ i < x.n:=by
  intro nd h
  obtain ⟨i,hi⟩:=List.mem_iff_getElem?.1 h
  exact ⟨i,hi,by rw [← hn];exact (List.getElem?_eq_some_iff.1 hi).1⟩
 have hl:∀ i,i < x.n → ((x.nodes.map Nd.kind).take i).length = i:=fun i hi=>by rw [List.length_take,List.length_map,hn];omega
 have hsrc:∀ nd ∈ x.nodes,nd = ak1 ∨ (∃ v,nd = ae3 (v % x.n)) ∨ ∃ i,i < x.n ∧ GateOk ((x.nodes.map Nd.kind).take i) nd:=by
  intro nd h
  obtain ⟨i,hi,hlt⟩:=key nd h
  rcases x.node_cases hi with h|h|h
  ·exact .inl h
  ·exact .inr (.inl h)
  ·exact .inr (.inr ⟨i,hlt,h⟩)
 refine ⟨by show 0 < x.nodes.length;omega,by show x.nodes.length ≤ 14;omega,by show x.names = _;rw [show x.cir.nodes = x.nodes from rfl,hn];rfl,?_,?_,?_,?_,?_,?_,?_,?_,?_⟩
 ·intro nd h
  rcases hsrc nd h with rfl|⟨v,rfl⟩|⟨i,hi,h⟩
  ·decide
  ·exact Nat.le_refl 14
  ·have:=h.k13;omega
 ·intro nd h
  rcases hsrc nd h with rfl|⟨v,rfl⟩|⟨i,hi,h⟩
  ·decide
  ·exact Nat.le_refl 1
  ·exact h.lo
 ·intro nd h
  rcases hsrc nd h with rfl|⟨v,rfl⟩|⟨i,hi,h⟩
  ·decide
  ·exact Nat.le_refl 1
  ·exact h.hi
 ·intro nd h m hm
  show m < x.nodes.length
  rw [hn]
  rcases hsrc nd h with rfl|⟨v,rfl⟩|⟨i,hi,h⟩
  ·simp [ak1] at hm
  ·simp only [ae3,List.mem_cons,List.not_mem_nil,or_false] at hm;subst hm;exact Nat.mod_lt _ (by omega)
  ·have:=h.ins m hm;rw [hl i hi] at this;omega
 ·intro nd h h13 m hm
  rcases hsrc nd h with rfl|⟨v,rfl⟩|⟨i,hi,h⟩
  ·simp [ak1] at hm
  ·simp [ae3] at h13
  ·have h1:=h.bus h13 m hm
   have h2:=h.ins m hm
   rw [hl i hi] at h2
   rw [List.getElem?_take,if_pos h2,List.getElem?_map] at h1
   show aaq x.nodes m = 12
   unfold aaq
   rw [h1];rfl
 ·intro nd h
  rcases hsrc nd h with rfl|⟨v,rfl⟩|⟨i,hi,h⟩
  ·exact ⟨rfl,rfl⟩
  ·exact ⟨rfl,rfl⟩
  ·exact h.mem
 ·intro i nd h hc m hm
  have hlt:i < x.n:=by rw [← hn];exact (List.getElem?_eq_some_iff.1 h).1
  rcases x.node_cases h with rfl|⟨v,rfl⟩|h
  ·simp [ak1] at hm
  ·simp [ae3,abr] at hc
  ·have:=h.ins m hm;rw [hl i hlt] at this;exact this
 ·intro o ho
  show o < x.nodes.length
  rw [hn]
  have ho:o ∈ x.outN:=ho
  unfold CX.outN at ho
  simp only [List.mem_append,List.mem_map,List.mem_cons,List.not_mem_nil,or_false] at ho
  rcases ho with ⟨a,_,rfl⟩|rfl
  ·exact Nat.mod_lt _ (by omega)
  ·omega
 ·show x.outN.length ≤ 4
  unfold CX.outN;simp;omega
end Go.Pc
/- PcFan: which pins read a net. Plain. -/
namespace Go.Pc
open Go.Ax
def aip (l:Nat × Nat):List AV:=[.int .i64 l.1,.int .i64 l.2]
def cnt (L:List (Nat × Nat)) (a:Nat):Nat:=(L.map (·.1)).count a
structure FoOk (nodes:List Nd) (i k:Nat) (fo:List (List (Nat × Nat))):Prop where
 len:fo.length = nodes.length
 num:∀ (j:Nat) (L:List (Nat × Nat)),fo[j]? = some L → ∀ a,cnt L a = if a < i then (ac5 nodes a).count j else if a = i then ((ac5 nodes i).take k).count j else 0
theorem FoOk.zero (nodes:List Nd):FoOk nodes 0 0 (List.replicate nodes.length []):=by
 refine ⟨by simp,fun j L h a=>?_⟩
 rw [List.getElem?_replicate] at h
 split at h
 ·cases h;simp [Pc.cnt]
 ·cases h
theorem FoOk.step {nodes:List Nd} {i k m:Nat} {fo:List (List (Nat × Nat))} {L:List (Nat × Nat)} (h:FoOk nodes i k fo) (hm:(ac5 nodes i)[k]? = some m) (hL:fo[m]? = some L):FoOk nodes i (k + 1) (fo.set m (L ++ [(i,k)])):=by
 refine ⟨by rw [List.length_set,h.len],fun j L' hj a=>?_⟩
 have ht:=aay hm
 rw [List.getElem?_set] at hj
 have hml:m < fo.length:=(List.getElem?_eq_some_iff.1 hL).1
 by_cases hmj:m = j
 ·subst hmj
  simp only [if_true,hml,Option.some.injEq] at hj
  subst hj
  have:=h.num m L hL a
  have e:Pc.cnt (L ++ [(i,k)]) a = Pc.cnt L a + if i = a then 1 else 0:=by
   unfold Pc.cnt
   rw [List.map_append,List.count_append]
   by_cases hia:i = a
   ·subst hia;simp
   ·simp [hia,List.count_cons]
  rw [e,this,ht]
  by_cases h1:a < i
  ·simp [h1];omega
  ·by_cases h2:a = i
   ·subst h2;simp
   ·simp [h1,h2];omega
 ·rw [if_neg hmj] at hj
  have:=h.num j L' hj a
  rw [this,ht]
  by_cases h1:a < i
  ·simp [h1]
  ·by_cases h2:a = i
   ·subst h2
    simp [List.count_append,List.count_cons,hmj]
   ·simp [h1,h2]
theorem FoOk.next {nodes:List Nd} {i k:Nat} {fo:List (List (Nat × Nat))} (h:FoOk nodes i k fo) (hk:k = (ac5 nodes i).length):FoOk nodes (i + 1) 0 fo:=by
 refine ⟨h.len,fun j L hj a=>?_⟩
 rw [h.num j L hj a]
 subst hk
 rw [List.take_length]
 by_cases h1:a < i
 ·simp [h1,show a < i + 1 by omega]
 ·by_cases h2:a = i
  ·subst h2;simp
  ·simp [h1,h2,show ¬ a < i + 1 by omega]
theorem abk {nodes:List Nd} {i:Nat} {x:Nd} (h:nodes[i]? = some x):ac5 nodes i = x.ins:=by simp [ac5,h]
theorem bc5 (n:Nat):∀ (L:List (Nat × Nat)),(∀ l ∈ L,l.1 < n) → L.length = ((List.range n).map fun a=>cnt L a).sum
 | [],_=>by
  have:∀ l:List Nat,(l.map fun a=>cnt [] a).sum = 0:=by intro l;induction l with|nil=>rfl|cons a l ih=>rw [List.map_cons,List.sum_cons,ih];rfl
  rw [this];rfl
 | x :: L,h=>by
  have ih:=bc5 n L (fun l hl=>h l (by simp [hl]))
  have hx:=h x (by simp)
  have e:∀ a,cnt (x :: L) a = cnt L a + if x.1 = a then 1 else 0:=fun a=>by
   unfold cnt;rw [List.map_cons,List.count_cons];simp [beq_iff_eq]
  have s:∀ (l:List Nat),l.Nodup → (l.map fun a=>cnt (x :: L) a).sum = (l.map fun a=>cnt L a).sum + if x.1 ∈ l then 1 else 0:=by
   intro l
   induction l with
   | nil=>intro _;rfl
   | cons a l ih2=>
    intro hn
    rw [List.nodup_cons] at hn
    simp only [List.map_cons,List.sum_cons,e a,ih2 hn.2,List.mem_cons]
    by_cases h1:x.1 = a
    ·subst h1;simp [hn.1];omega
    ·simp [h1];omega
  rw [s _ List.nodup_range,if_pos (by simpa using hx),List.length_cons,ih]
theorem FoOk.node {nodes:List Nd} {i k j:Nat} {fo:List (List (Nat × Nat))} {L:List (Nat × Nat)} (h:FoOk nodes i k fo) (hL:fo[j]? = some L) (hi:i ≤ nodes.length):∀ l ∈ L,l.1 < nodes.length:=by
 intro l hl
 have hc:=h.num j L hL l.1
 have hp:0 < cnt L l.1:=by unfold cnt;exact List.count_pos_iff.2 (List.mem_map.2 ⟨l,hl,rfl⟩)
 by_cases h1:l.1 < i
 ·omega
 ·rw [if_neg h1] at hc
  by_cases h2:l.1 = i
  ·rw [if_pos h2] at hc
   cases hx:nodes[i]? with
   | none=>simp [ac5,hx] at hc;omega
   | some x=>have:=(List.getElem?_eq_some_iff.1 hx).1;omega
  ·rw [if_neg h2] at hc;omega
theorem FoOk.total {nodes:List Nd} {i k j:Nat} {fo:List (List (Nat × Nat))} {L:List (Nat × Nat)} (h:FoOk nodes i k fo) (hL:fo[j]? = some L) (hn:nodes.length ≤ 14) (hx:∀ y ∈ nodes,y.ins.length ≤ 16) (hi:i ≤ nodes.length:=by omega):L.length ≤ 224:=by
 have hb:∀ a,cnt L a ≤ 16:=by
  intro a
  have hins:(ac5 nodes a).length ≤ 16:=by
   unfold ac5
   cases hx':nodes[a]? with
   | none=>simp
   | some x=>exact hx x (List.mem_of_getElem? hx')
  rw [h.num j L hL a]
  split
  ·exact Nat.le_trans List.count_le_length hins
  split
  ·rename_i e;subst e
   refine Nat.le_trans List.count_le_length ?_
   rw [List.length_take];omega
  ·omega
 rw [bc5 nodes.length L (h.node hL hi)]
 have s:∀ l:List Nat,(l.map fun a=>cnt L a).sum ≤ 16 * l.length:=by
  intro l
  induction l with
  | nil=>simp
  | cons a l ih=>have:=hb a;simp only [List.map_cons,List.sum_cons,List.length_cons];omega
 have:=s (List.range nodes.length)
 rw [List.length_range] at this
 omega
theorem Cir.wf.insl {c:Cir} (h:c.wf) {x:Nd} (hx:x ∈ c.nodes):x.ins.length ≤ 16:=by
 have k14:=h.kind x hx
 have hhi:=h.hi x hx
 have:abm x.kind ≤ 16:=by
  have hk:x.kind = 0 ∨ x.kind = 1 ∨ x.kind = 2 ∨ x.kind = 3 ∨ x.kind = 4 ∨ x.kind = 5 ∨ x.kind = 6 ∨ x.kind = 7 ∨ x.kind = 8 ∨ x.kind = 9 ∨ x.kind = 10 ∨ x.kind = 11 ∨ x.kind = 12 ∨ x.kind = 13 ∨ x.kind = 14:=by omega
  rcases hk with e|e|e|e|e|e|e|e|e|e|e|e|e|e|e<;>rw [e]<;>decide
 omega
end Go.Pc
/- PcKahn: the order in which nodes become ready. Plain. -/
namespace Go.Pc
open Go.Ax
def asl (nodes:List Nd) (ready:List Nat) (done a:Nat):Nat:=((ac5 nodes a).filter fun m=>decide (m ∉ ready.take done)).length
structure Kahn (nodes:List Nd) (left ready:List Nat) (done:Nat) (L:List (Nat × Nat)):Prop where
 ll:left.length = nodes.length
 rn:∀ r ∈ ready,r < nodes.length
 nd:ready.Nodup
 dle:done ≤ ready.length
 eq:∀ a,a < nodes.length → abr (aaq nodes a) = true → left.getD a 0 + cnt L a = asl nodes ready done a
 nc:∀ a,a < nodes.length → abr (aaq nodes a) = false → left.getD a 0 = 0
 zero:∀ a,a < nodes.length → (a ∈ ready ↔ left.getD a 0 = 0)
def al7 (nodes:List Nd) (a:Nat):Nat:=if abr (aaq nodes a) then (ac5 nodes a).length else 0
def adg (nodes:List Nd) (i:Nat):List Nat:=(List.range nodes.length).map fun j=>if j < i then al7 nodes j else 0
def adv (nodes:List Nd) (i:Nat):List Nat:=(List.range i).filter fun j=>decide (al7 nodes j = 0)
theorem asz (nodes:List Nd) (i:Nat):adv nodes (i + 1) = if al7 nodes i = 0 then adv nodes i ++ [i] else adv nodes i:=by
 unfold adv
 rw [List.range_succ,List.filter_append]
 by_cases h:al7 nodes i = 0<;>simp [h]
theorem ayi (nodes:List Nd) (i:Nat):(adv nodes i).length ≤ i:=Nat.le_trans (List.length_filter_le _ _) (by simp)
theorem avk (nodes:List Nd):adg nodes 0 = List.replicate nodes.length 0:=by
 apply List.ext_getElem?
 intro j
 simp only [adg,List.getElem?_map,List.getElem?_replicate,Nat.not_lt_zero,if_false]
 by_cases h:j < nodes.length
 ·rw [List.getElem?_range h];simp [h]
 ·rw [List.getElem?_eq_none (by simpa using h)];simp [h]
theorem aft {nodes:List Nd} {i j:Nat} (h:j < nodes.length):(adg nodes i)[j]? = some (if j < i then al7 nodes j else 0):=by
 simp [adg,List.getElem?_range h]
theorem ao1 {nodes:List Nd} {i:Nat} (h:i < nodes.length):(adg nodes i).set i (al7 nodes i) = adg nodes (i + 1):=by
 apply List.ext_getElem?
 intro j
 rw [List.getElem?_set]
 by_cases hj:j < nodes.length
 ·rw [aft hj,aft hj]
  by_cases hij:i = j
  ·subst hij;simp [adg,h]
  ·by_cases h2:j < i
   ·simp [hij,h2,show j < i + 1 by omega]
   ·simp [hij,h2,show ¬ j < i + 1 by omega]
 ·have e:∀ i,(adg nodes i)[j]? = none:=fun i=>List.getElem?_eq_none (by simp [adg];omega)
  rw [e,e]
  have:i ≠ j:=by omega
  simp [this]
theorem avl {nodes:List Nd} {i:Nat} (h:i < nodes.length) (h0:al7 nodes i = 0):adg nodes i = adg nodes (i + 1):=by
 rw [← ao1 h]
 apply List.ext_getElem?
 intro j
 rw [List.getElem?_set]
 by_cases hij:i = j
 ·subst hij;rw [aft h];simp [adg,h,h0]
 ·simp [hij]
theorem Kahn.start (nodes:List Nd):Kahn nodes (adg nodes nodes.length) (adv nodes nodes.length) 0 []:=by
 have hg:∀ a,a < nodes.length → (adg nodes nodes.length).getD a 0 = al7 nodes a:=by
  intro a ha
  rw [List.getD,aft ha];simp [ha]
 refine ⟨by simp [adg],?_,?_,Nat.zero_le _,?_,?_,?_⟩
 ·intro r hr
  unfold adv at hr
  rw [List.mem_filter] at hr
  simpa using hr.1
 ·exact List.nodup_range.filter _
 ·intro a ha hc
  rw [hg a ha]
  have e:∀ l:List Nat,(l.filter fun m=>decide (m ∉ ([]:List Nat))) = l:=fun l=>List.filter_eq_self.2 (fun m _=>by simp)
  simp only [al7,hc,if_true,asl,cnt,List.map_nil,List.count_nil,List.take_zero,Nat.add_zero]
  exact (congrArg List.length (e _)).symm
 ·intro a ha hc
  rw [hg a ha];simp [al7,hc]
 ·intro a ha
  rw [hg a ha]
  unfold adv
  rw [List.mem_filter]
  simp [ha]
section
variable {nodes:List Nd} {left ready:List Nat} {done:Nat} {L:List (Nat × Nat)}
theorem asc (L:List (Nat × Nat)) (a p b:Nat):cnt (L ++ [(a,p)]) b = cnt L b + if a = b then 1 else 0:=by
 unfold cnt
 rw [List.map_append,List.count_append]
 by_cases hia:a = b
 ·subst hia;simp
 ·simp [hia,List.count_cons]
theorem Kahn.skip (h:Kahn nodes left ready done L) {a p:Nat} (hc:abr (aaq nodes a) = false):Kahn nodes left ready done (L ++ [(a,p)]):=by
 refine ⟨h.ll,h.rn,h.nd,h.dle,?_,h.nc,h.zero⟩
 intro b hb hcb
 have:a ≠ b:=fun e=>by subst e;rw [hc] at hcb;cases hcb
 rw [asc,if_neg this,Nat.add_zero]
 exact h.eq b hb hcb
theorem bfo {ready:List Nat} {done x a:Nat} (h:done ≤ ready.length):asl nodes (ready ++ [x]) done a = asl nodes ready done a:=by
 unfold asl;rw [List.take_append_of_le_length h]
theorem Kahn.pos (h:Kahn nodes left ready done L) {a p:Nat} (ha:a < nodes.length) (hc:abr (aaq nodes a) = true) (hcnt:cnt (L ++ [(a,p)]) a ≤ asl nodes ready done a):0 < left.getD a 0:=by
 have:=h.eq a ha hc
 rw [asc,if_pos rfl] at hcnt
 omega
theorem Kahn.dec (h:Kahn nodes left ready done L) {a p:Nat} (ha:a < nodes.length) (hc:abr (aaq nodes a) = true) (hcnt:cnt (L ++ [(a,p)]) a ≤ asl nodes ready done a) :
 Kahn nodes (left.set a (left.getD a 0 - 1)) (if left.getD a 0 - 1 = 0 then ready ++ [a] else ready) done (L ++ [(a,p)]):=by
 have hpos:=h.pos ha hc hcnt
 have hal:a < left.length:=by rw [h.ll];exact ha
 have hget:∀ b,(left.set a (left.getD a 0 - 1)).getD b 0 = if a = b then left.getD a 0 - 1 else left.getD b 0:=by
  intro b
  simp only [List.getD_eq_getElem?_getD,List.getElem?_set]
  by_cases hab:a = b
  ·subst hab;simp [hal]
  ·simp [hab]
 have hna:a ∉ ready:=fun hm=>by have:=(h.zero a ha).1 hm;omega
 have hpe:∀ b,asl nodes (if left.getD a 0 - 1 = 0 then ready ++ [a] else ready) done b = asl nodes ready done b:=by
  intro b;split
  ·exact bfo h.dle
  ·rfl
 refine ⟨by rw [List.length_set,h.ll],?_,?_,?_,?_,?_,?_⟩
 ·intro r hr
  split at hr
  ·simp only [List.mem_append,List.mem_singleton] at hr
   rcases hr with hr|rfl
   ·exact h.rn r hr
   ·exact ha
  ·exact h.rn r hr
 ·split
  ·rw [List.nodup_append]
   refine ⟨h.nd,by simp,?_⟩
   intro x hx y hy
   simp only [List.mem_singleton] at hy
   subst hy
   exact fun e=>hna (e ▸ hx)
  ·exact h.nd
 ·split
  ·have:=h.dle;simp;omega
  ·exact h.dle
 ·intro b hb hcb
  rw [hget,hpe,asc]
  have:=h.eq b hb hcb
  by_cases hab:a = b
  ·subst hab;rw [if_pos rfl,if_pos rfl];omega
  ·rw [if_neg hab,if_neg hab,Nat.add_zero];exact this
 ·intro b hb hcb
  have:a ≠ b:=fun e=>by subst e;rw [hc] at hcb;cases hcb
  rw [hget,if_neg this]
  exact h.nc b hb hcb
 ·intro b hb
  rw [hget]
  by_cases hab:a = b
  ·subst hab
   rw [if_pos rfl]
   split
   ·rename_i e;exact ⟨fun _=>e,fun _=>by simp⟩
   ·rename_i e;exact ⟨fun hm=>absurd hm hna,fun e'=>absurd e' e⟩
  ·rw [if_neg hab]
   rw [← h.zero b hb]
   split
   ·simp [Ne.symm hab]
   ·rfl
theorem agt (l:List Nat) (S:List Nat) (x:Nat) (hx:x ∉ S):(l.filter fun m=>decide (m ∉ S)).length = (l.filter fun m=>decide (m ∉ S ++ [x])).length + l.count x:=by
 induction l with
 | nil=>rfl
 | cons a l ih=>
  simp only [List.filter_cons,List.count_cons]
  by_cases hax:a = x
  ·subst hax
   simp [hx] at ih ⊢
   omega
  ·by_cases haS:a ∈ S
   ·simp [haS,hax] at ih ⊢;omega
   ·simp [haS,hax] at ih ⊢;omega
theorem Kahn.next (h:Kahn nodes left ready done L) {x:Nat} (hx:ready[done]? = some x) (hL:∀ a,a < nodes.length → cnt L a = (ac5 nodes a).count x):Kahn nodes left ready (done + 1) []:=by
 have hdl:=(List.getElem?_eq_some_iff.1 hx).1
 have ht:=aay hx
 have hnx:x ∉ ready.take done:=by
  intro hm
  obtain ⟨i,hi⟩:=List.mem_iff_getElem?.1 hm
  rw [List.getElem?_take] at hi
  split at hi
  case isFalse=>cases hi
  have:=(List.getElem?_inj (by omega) h.nd).1 (hi.trans hx.symm)
  omega
 refine ⟨h.ll,h.rn,h.nd,by omega,?_,h.nc,h.zero⟩
 intro a ha hc
 have:=h.eq a ha hc
 rw [hL a ha] at this
 unfold asl at this ⊢
 rw [ht]
 rw [agt _ _ x hnx] at this
 simp only [cnt,List.map_nil,List.count_nil]
 omega
theorem bky {ready:List Nat} {done x a:Nat} (nd:ready.Nodup) (hx:ready[done]? = some x):(ac5 nodes a).count x ≤ asl nodes ready done a:=by
 have hdl:=(List.getElem?_eq_some_iff.1 hx).1
 have hnx:x ∉ ready.take done:=by
  intro hm
  obtain ⟨i,hi⟩:=List.mem_iff_getElem?.1 hm
  rw [List.getElem?_take] at hi
  split at hi
  case isFalse=>cases hi
  have:=(List.getElem?_inj (by omega) nd).1 (hi.trans hx.symm)
  omega
 unfold asl
 rw [agt _ _ x hnx]
 omega
theorem Kahn.all (h:Kahn nodes left ready ready.length []) (hac:∀ (i:Nat) (x:Nd),nodes[i]? = some x → abr x.kind = true → ∀ m ∈ x.ins,m < i):nodes.length ≤ ready.length:=by
 have key:∀ n a,a ≤ n → a < nodes.length → a ∈ ready:=by
  intro n
  induction n with
  | zero=>
   intro a han ha
   obtain rfl:a = 0:=by omega
   rw [h.zero 0 ha]
   cases hc:abr (aaq nodes 0) with
   | false=>exact h.nc 0 ha hc
   | true=>
    obtain ⟨x,hx⟩:∃ x,nodes[0]? = some x:=⟨_,List.getElem?_eq_getElem ha⟩
    have he:=h.eq 0 ha hc
    have hk:aaq nodes 0 = x.kind:=by simp [aaq,hx]
    rw [hk] at hc
    have hi:ac5 nodes 0 = []:=by
     simp only [ac5,hx,Option.map_some,Option.getD_some]
     cases hins:x.ins with
     | nil=>rfl
     | cons m r=>have:=hac 0 x hx hc m (by simp [hins]);omega
    have:asl nodes ready ready.length 0 = 0:=by simp [asl,hi]
    omega
  | succ n ih=>
   intro a han ha
   rw [h.zero a ha]
   cases hc:abr (aaq nodes a) with
   | false=>exact h.nc a ha hc
   | true=>
    obtain ⟨x,hx⟩:∃ x,nodes[a]? = some x:=⟨_,List.getElem?_eq_getElem ha⟩
    have he:=h.eq a ha hc
    have hk:aaq nodes a = x.kind:=by simp [aaq,hx]
    rw [hk] at hc
    have hi:ac5 nodes a = x.ins:=abk hx
    have:asl nodes ready ready.length a = 0:=by
     unfold asl
     rw [hi,List.take_length,List.length_eq_zero_iff,List.filter_eq_nil_iff]
     intro m hm
     have h1:=hac a x hx hc m hm
     have h2:=ih m (by omega) (by omega)
     simp [h2]
    omega
 have:=ao0 (l:=List.range nodes.length) (T:=ready) List.nodup_range (fun a ha=>key a a (Nat.le_refl _) (by simpa using ha))
 simpa using this
theorem Kahn.bound (h:Kahn nodes left ready done L):ready.length ≤ nodes.length:=by
 have:=ao0 h.nd (T:=List.range nodes.length) (fun a ha=>by simpa using h.rn a ha)
 simpa using this
end
end Go.Pc
/- PcPerm: exchanging neighbours. Plain. -/
namespace Go.Pc
theorem baj {l:List Nat} {j x y:Nat} (hj:l[j + 1]? = some x) (hi:l[j]? = some y):((l.set (j + 1) y).set j x).Perm l:=by
 induction l generalizing j with
 | nil=>simp at hj
 | cons a l ih=>
  cases j with
  | zero=>
   cases l with
   | nil=>simp at hj
   | cons b l=>
    simp only [List.getElem?_cons_succ,List.getElem?_cons_zero,Option.some.injEq] at hj hi
    subst hj;subst hi
    exact List.Perm.swap ..
  | succ j=>
   simp only [List.getElem?_cons_succ] at hj hi
   simp only [List.set_cons_succ]
   exact (ih hj hi).cons a
def bja (a b:Nat):Int:=if a < b then -1 else if b < a then 1 else 0
end Go.Pc
/- PcReach: which nets a net depends on; faults that are valid. Plain. -/
namespace Go.Pc
open Go.Ax
inductive DepOn (nodes:List Nd):Nat → Nat → Prop
 | refl (a:Nat):DepOn nodes a a
 | step {a m b:Nat} (hk:aaq nodes a ≠ 14) (hm:m ∈ ac5 nodes a) (h:DepOn nodes m b):DepOn nodes a b
theorem DepOn.cases {nodes:List Nd} {a b:Nat} (h:DepOn nodes a b):a = b ∨ (aaq nodes a ≠ 14 ∧ ∃ m,m ∈ ac5 nodes a ∧ DepOn nodes m b):=by
 cases h with
 | refl=>exact .inl rfl
 | step hk hm h=>exact .inr ⟨hk,_,hm,h⟩
theorem DepOn.not_dff {nodes:List Nd} {a b:Nat} (hab:a ≠ b) (hk:aaq nodes a = 14):¬ DepOn nodes a b:=fun h=>by
 rcases h.cases with e|⟨h1,_⟩
 ·exact hab e
 ·exact h1 hk
theorem DepOn.snoc {nodes:List Nd} {a b m:Nat} (h:DepOn nodes a b) (hk:aaq nodes b ≠ 14) (hm:m ∈ ac5 nodes b):DepOn nodes a m:=by
 induction h with
 | refl a=>exact .step hk hm (.refl _)
 | step hk' hm' _ ih=>exact .step hk' hm' (ih hk hm)
theorem Cir.wf.comb_of {c:Cir} (h:c.wf) {x:Nd} (hx:x ∈ c.nodes) (hp:0 < x.ins.length) (h14:x.kind ≠ 14):abr x.kind = true:=by
 have h1:=h.kind x hx
 have h2:=h.hi x hx
 have h3:x.kind ≠ 0:=by
  intro e;rw [e] at h2
  have:abm 0 = 0:=rfl
  omega
 simp [abr];omega
structure FltOk (nodes:List Nd) (f:Flt):Prop where
 model:f.model = 0 ∨ f.model = 2 ∨ f.model = 3
 node:f.node < nodes.length
 pin:-1 ≤ f.pin ∧ f.pin < (ac5 nodes f.node).length
 value:f.value ≤ 1
 other:f.other < nodes.length
 stuck:f.model = 0 → f.other = 0
 bridge:f.model ≠ 0 → f.pin = -1 ∧ f.node ≠ f.other ∧ (f.model = 2 → f.node ≤ f.other) ∧ (f.model = 3 → f.value = 0) ∧ aaq nodes f.node ≠ 12 ∧ aaq nodes f.other ≠ 12 ∧ ¬ DepOn nodes f.node f.other ∧ ¬ DepOn nodes f.other f.node
end Go.Pc
/- PcRun: the simulation, step by step. Plain. -/
namespace Go.Pc
open Go.Ax
section
variable {α:Type} {A:Alg α} {nodes:List Nd} {h:Hk α}
theorem bbb {n:Nat} {nets:List α}:∀ {l:List Nat} {p i m:Nat},l[i]? = some m → (ad6 A h n nets p l)[i]? = some (h.pin n (p + i) (nets.getD m A.z))
 | [],p,i,m,hm=>by simp at hm
 | a :: l,p,0,m,hm=>by simp at hm;subst hm;rfl
 | a :: l,p,i + 1,m,hm=>by
  simp only [List.getElem?_cons_succ] at hm
  simp only [ad6,List.getElem?_cons_succ,bbb (p:=p + 1) hm]
  rw [show p + 1 + i = p + (i + 1) by omega]
theorem bba {n:Nat} {nets:List α}:∀ (l:List Nat) (p:Nat),(ad6 A h n nets p l).length = l.length
 | [],_=>rfl
 | a :: l,p=>by simp [ad6,bba l]
theorem adx {nets:List α} {n:Nat}:(aap A nodes h nets n).length = (ac5 nodes n).length:=bba _ _
theorem ale {nets:List α} {n i m:Nat} {v:α} (hm:(ac5 nodes n)[i]? = some m) (hv:nets[m]? = some v):(aap A nodes h nets n).take (i + 1) = (aap A nodes h nets n).take i ++ [h.pin n i v]:=by
 have:=bbb (A:=A) (h:=h) (n:=n) (nets:=nets) (p:=0) hm
 rw [Nat.zero_add,List.getD,hv] at this
 exact aay this
theorem aqc:∀ {is:List Nat} {vs:List α} {nets:List α} {a:Nat} {v:α},is.length = vs.length → abi nets (is ++ [a]) (vs ++ [v]) = (abi nets is vs).set a v
 | [],[],nets,a,v,_=>rfl
 | [],_ :: _,_,_,_,h=>by simp at h
 | _ :: _,[],_,_,_,h=>by simp at h
 | i :: is,w :: vs,nets,a,v,h=>by simp only [List.cons_append,abi];exact aqc (by simpa using h)
theorem acf:∀ (is:List Nat) (vs:List α) (nets:List α),(abi nets is vs).length = nets.length
 | [],vs,nets=>by cases vs<;>rfl
 | i :: is,[],nets=>rfl
 | i :: is,v :: vs,nets=>by simp [abi,acf is vs]
theorem afs {is:List Nat} {vs nets:List α} {i a:Nat} {v:α} (h1:is[i]? = some a) (h2:vs[i]? = some v):abi nets (is.take (i + 1)) (vs.take (i + 1)) = (abi nets (is.take i) (vs.take i)).set a v:=by
 rw [aay h1,aay h2]
 have l1:=(List.getElem?_eq_some_iff.1 h1).1
 have l2:=(List.getElem?_eq_some_iff.1 h2).1
 exact aqc (by rw [List.length_take,List.length_take];omega)
theorem asr (nets:List α) (n:Nat):(stepG A nodes h nets n).length = nets.length:=by unfold stepG;simp
theorem aj7 (l:List Nat) (nets:List α):(l.foldl (stepG A nodes h) nets).length = nets.length:=by
 induction l generalizing nets with
 | nil=>rfl
 | cons a l ih=>rw [List.foldl_cons,ih,asr]
theorem aio (ord ins sts:List Nat) (vi vs:List α):(amf A nodes h ord ins sts vi vs).length = nodes.length:=by
 unfold amf;rw [aj7,acf,acf];simp
theorem aoi {l:List Nat} {nets:List α} {i n:Nat} (hn:l[i]? = some n):(l.take (i + 1)).foldl (stepG A nodes h) nets = stepG A nodes h ((l.take i).foldl (stepG A nodes h) nets) n:=by
 rw [aay hn,List.foldl_append];rfl
end
end Go.Pc
/- PcLev: levels of nodes; orders in which ae2 node stands behind what it av7. Plain. -/
namespace Go.Pc
open Go.Ax
structure Lev (nodes:List Nd) (lv ready:List Nat) (done:Nat) (L:List (Nat × Nat)):Prop where
 old:∀ a,a < nodes.length → abr (aaq nodes a) = true → ∀ m ∈ ac5 nodes a,m ∈ ready.take done → lv.getD m 0 < lv.getD a 0
 now:∀ l ∈ L,abr (aaq nodes l.1) = true → ∀ x,ready[done]? = some x → lv.getD x 0 < lv.getD l.1 0
theorem Lev.start (nodes:List Nd) (lv ready:List Nat):Lev nodes lv ready 0 []:=⟨fun a _ _ m _ hm=>by simp at hm,fun l hl=>by simp at hl⟩
section
variable {nodes:List Nd} {lv left ready:List Nat} {done:Nat} {L:List (Nat × Nat)}
theorem Lev.skip (h:Lev nodes lv ready done L) {a p:Nat} (hc:abr (aaq nodes a) = false):Lev nodes lv ready done (L ++ [(a,p)]):=by
 refine ⟨h.old,fun l hl hcl=>?_⟩
 rcases List.mem_append.1 hl with hl|hl
 ·exact h.now l hl hcl
 ·rw [List.mem_singleton.1 hl] at hcl;rw [hc] at hcl;cases hcl
theorem an1 (lv:List Nat) (a v b:Nat) (ha:a < lv.length):(lv.set a v).getD b 0 = if a = b then v else lv.getD b 0:=by
 simp only [List.getD_eq_getElem?_getD,List.getElem?_set]
 by_cases hab:a = b
 ·subst hab;simp [ha]
 ·simp [hab]
theorem Lev.dec (h:Lev nodes lv ready done L) {a p x va vx:Nat} (hx:ready[done]? = some x) (hna:a ∉ ready) (hva:lv[a]? = some va) (hvx:lv[x]? = some vx) {ready':List Nat} (hr:ready' = ready ∨ ready' = ready ++ [a]) :
 Lev nodes (lv.set a (max va (vx + 1))) ready' done (L ++ [(a,p)]):=by
 have hal:=(List.getElem?_eq_some_iff.1 hva).1
 have hdl:=(List.getElem?_eq_some_iff.1 hx).1
 have hxr:x ∈ ready:=List.mem_of_getElem? hx
 have hax:a ≠ x:=fun e=>hna (e ▸ hxr)
 have ea:lv.getD a 0 = va:=by rw [List.getD,hva];rfl
 have ex:lv.getD x 0 = vx:=by rw [List.getD,hvx];rfl
 have ht:ready'.take done = ready.take done:=by
  rcases hr with rfl|rfl
  ·rfl
  ·exact List.take_append_of_le_length (by omega)
 have hx':ready'[done]? = some x:=by
  rcases hr with rfl|rfl
  ·exact hx
  ·rw [List.getElem?_append_left hdl];exact hx
 have up:∀ b,lv.getD b 0 ≤ (lv.set a (max va (vx + 1))).getD b 0:=by
  intro b;rw [an1 _ _ _ _ hal];split
  ·rename_i e;subst e;rw [ea];exact Nat.le_max_left _ _
  ·exact Nat.le_refl _
 refine ⟨?_,?_⟩
 ·intro b hb hcb m hm hmr
  rw [ht] at hmr
  have hma:a ≠ m:=fun e=>hna (e ▸ List.mem_of_mem_take hmr)
  rw [an1 _ _ _ m hal,if_neg hma]
  exact Nat.lt_of_lt_of_le (h.old b hb hcb m hm hmr) (up b)
 ·intro l hl hcl y hy
  rw [hx'] at hy;cases hy
  rw [an1 _ _ _ x hal,if_neg hax]
  rcases List.mem_append.1 hl with hl|hl
  ·exact Nat.lt_of_lt_of_le (h.now l hl hcl x hx) (up _)
  ·rw [List.mem_singleton.1 hl,an1 _ _ _ _ hal,if_pos rfl,ex]
   exact Nat.lt_of_lt_of_le (Nat.lt_succ_self _) (Nat.le_max_right _ _)
theorem Lev.next (h:Lev nodes lv ready done L) {x:Nat} (hx:ready[done]? = some x) (hL:∀ a,a < nodes.length → cnt L a = (ac5 nodes a).count x):Lev nodes lv ready (done + 1) []:=by
 refine ⟨?_,fun l hl=>by simp at hl⟩
 intro a ha hc m hm hmr
 rw [aay hx] at hmr
 rcases List.mem_append.1 hmr with hmr|hmr
 ·exact h.old a ha hc m hm hmr
 ·rw [List.mem_singleton.1 hmr] at hm ⊢
  have h1:=hL a ha
  have h2:0 < (ac5 nodes a).count x:=List.count_pos_iff.2 hm
  rw [← h1] at h2
  unfold Pc.cnt at h2
  obtain ⟨l,hl,rfl⟩:=List.mem_map.1 (List.count_pos_iff.1 h2)
  exact h.now l hl hc x hx
def Rises (nodes:List Nd) (lv:List Nat):Prop:=∀ a,a < nodes.length → abr (aaq nodes a) = true → ∀ m ∈ ac5 nodes a,m < nodes.length → lv.getD m 0 < lv.getD a 0
theorem Lev.all (h:Lev nodes lv ready ready.length []) (hk:Kahn nodes left ready ready.length []) (hall:nodes.length ≤ ready.length):Rises nodes lv:=by
 intro a ha hc m hm hmn
 refine h.old a ha hc m hm ?_
 rw [List.take_length]
 by_cases hmr:m ∈ ready
 ·exact hmr
 ·have hs:=ao0 (l:=m :: ready) (T:=List.range nodes.length) (List.nodup_cons.2 ⟨hmr,hk.nd⟩) (fun b hb=>by
   rcases List.mem_cons.1 hb with rfl|hb
   ·simpa using hmn
   ·simpa using hk.rn b hb)
  simp at hs;omega
end
def bov (nodes:List Nd) (ord:List Nat):Prop:=∀ (i n:Nat),ord[i]? = some n → abr (aaq nodes n) = true → ∀ m ∈ ac5 nodes n,m ∈ ord.take i
theorem Rises.topo {nodes:List Nd} {lv ord:List Nat} (h:Rises nodes lv) (hp:ord.Perm (List.range nodes.length)) (hs:ord.Pairwise fun x y=>lv.getD x 0 ≤ lv.getD y 0) (hin:∀ n,n < nodes.length → ∀ m ∈ ac5 nodes n,m < nodes.length):bov nodes ord:=by
 intro i n hi hc m hm
 have hn:n < nodes.length:=by have:=hp.mem_iff.1 (List.mem_of_getElem? hi);simpa using this
 have hmn:=hin n hn m hm
 obtain ⟨j,hj⟩:=List.mem_iff_getElem?.1 (hp.mem_iff.2 (List.mem_range.2 hmn))
 have hlt:=h n hn hc m hm hmn
 have hil:=(List.getElem?_eq_some_iff.1 hi).1
 have hjl:=(List.getElem?_eq_some_iff.1 hj).1
 by_cases hji:j < i
 ·exact List.mem_iff_getElem?.2 ⟨j,by rw [List.getElem?_take,if_pos hji];exact hj⟩
 ·exfalso
  by_cases hij:i = j
  ·subst hij;rw [hi] at hj;cases hj;omega
  ·have:=List.pairwise_iff_getElem.1 hs i j hil hjl (by omega)
   rw [(List.getElem?_eq_some_iff.1 hi).2,(List.getElem?_eq_some_iff.1 hj).2] at this
   omega
theorem Cir.wf.inAt {c:Cir} (h:c.wf):∀ n,n < c.nodes.length → ∀ m ∈ ac5 c.nodes n,m < c.nodes.length:=by
 intro n hn m hm
 obtain ⟨x,hx⟩:∃ x,c.nodes[n]? = some x:=⟨_,List.getElem?_eq_getElem hn⟩
 rw [abk hx] at hm
 exact h.ins x (List.mem_of_getElem? hx) m hm
/-! ### insertion -/
def SortJ (key:Nat → Nat) (d:List Nat) (i j:Nat):Prop:=∀ p q x y,p < q → q ≤ i → q ≠ j → d[p]? = some x → d[q]? = some y → key x ≤ key y
def SortI (key:Nat → Nat) (d:List Nat) (i:Nat):Prop:=∀ p q x y,p < q → q < i → d[p]? = some x → d[q]? = some y → key x ≤ key y
theorem SortI.start {key:Nat → Nat} {d:List Nat} {i:Nat} (h:SortI key d i):SortJ key d i i:=fun p q x y h1 h2 h3=>h p q x y h1 (by omega)
theorem SortI.one {key:Nat → Nat} {d:List Nat}:SortI key d 1:=fun p q x y h1 h2=>by omega
theorem SortJ.stop {key:Nat → Nat} {d:List Nat} {i j:Nat} (h:SortJ key d i j) (hj:j = 0 ∨ ∃ x y,d[j - 1]? = some x ∧ d[j]? = some y ∧ key x ≤ key y):SortI key d (i + 1):=by
 intro p q x y h1 h2 hx hy
 by_cases hq:q = j
 ·subst hq
  rcases hj with rfl|⟨x',y',h3,h4,h5⟩
  ·omega
  ·rw [hy] at h4;cases h4
   by_cases hp:p = q - 1
   ·subst hp;rw [hx] at h3;cases h3;exact h5
   ·exact Nat.le_trans (h p (q - 1) x x' (by omega) (by omega) (by omega) hx h3) h5
 ·exact h p q x y h1 (by omega) hq hx hy
theorem SortJ.swap {key:Nat → Nat} {d:List Nat} {i j:Nat} (h:SortJ key d i (j + 1)) (hji:j + 1 ≤ i) {x y:Nat} (hx:d[j]? = some x) (hy:d[j + 1]? = some y) (hlt:key y < key x):SortJ key ((d.set (j + 1) x).set j y) i j:=by
 have hjl:=(List.getElem?_eq_some_iff.1 hy).1
 have hg:∀ p,((d.set (j + 1) x).set j y)[p]? = if p = j then some y else if p = j + 1 then some x else d[p]?:=by
  intro p
  rw [List.getElem?_set,List.getElem?_set]
  simp only [List.length_set]
  by_cases h1:j = p
  ·subst h1;simp;omega
  ·by_cases h2:j + 1 = p
   ·subst h2;simp;omega
   ·simp [h1,h2,Ne.symm h1,Ne.symm h2]
 intro p q u v h1 h2 h3 hu hv
 rw [hg] at hu hv
 rw [if_neg h3] at hv
 by_cases hq:q = j + 1
 ·rw [if_pos hq] at hv;cases hv
  by_cases hp:p = j
  ·rw [if_pos hp] at hu;cases hu;omega
  ·rw [if_neg hp,if_neg (by omega)] at hu
   exact h p j u x (by omega) (by omega) (by omega) hu hx
 ·rw [if_neg hq] at hv
  by_cases hp:p = j
  ·rw [if_pos hp] at hu;cases hu
   exact h (j + 1) q y v (by omega) h2 (by omega) hy hv
  ·rw [if_neg hp] at hu
   by_cases hp2:p = j + 1
   ·rw [if_pos hp2] at hu;cases hu
    exact h j q x v (by omega) h2 (by omega) hx hv
   ·rw [if_neg hp2] at hu
    exact h p q u v h1 h2 (by omega) hu hv
theorem SortI.pairwise {key:Nat → Nat} {d:List Nat} (h:SortI key d d.length):d.Pairwise fun x y=>key x ≤ key y:=by
 rw [List.pairwise_iff_getElem]
 intro i j hi hj hij
 exact h i j _ _ hij hj (List.getElem?_eq_getElem hi) (List.getElem?_eq_getElem hj)
end Go.Pc
/- PcLog: gates over the values 0, 1, X and Z; they are the gates over pairs of bits. Plain. -/
namespace Go.Pc
open Go.Ax
def aew (v:Nat):Nat:=min v 2
def amv (v:Nat):Nat:=if v ≤ 1 then 1 - v else 2
def agz (low high:Nat):Nat → List Nat → Nat
 | out,[]=>out
 | out,v :: r=>if v = low then low else agz low high (if v = high then out else 2) r
def apq:Nat → List Nat → Nat
 | out,[]=>out
 | out,v :: r=>if v ≤ 1 then apq (out ^^^ v) r else 2
def ata (s a b:Nat):Nat:=if s = 0 then aew a else if s = 1 then aew b else if a = b then aew a else 2
def avf (e d:Nat):Nat:=if e = 0 then 3 else if e = 1 then aew d else 2
def bj0 (l:List Nat):Nat:=match l.findIdx? (fun v=>decide (v ≠ 3)) with
 | none=>3
 | some i=>if (decide (0 ∈ l) && decide (1 ∈ l)) || l.any (fun v=>decide (ac9 v = 2)) then 2 else l.getD i 0
def aeb (k:Nat) (l:List Nat):Nat:=match k with
 | 1=>0
 | 2=>1
 | 3=>aew (l.getD 0 2)
 | 4=>amv (l.getD 0 2)
 | 5=>agz 0 1 1 l
 | 6=>amv (agz 0 1 1 l)
 | 7=>agz 1 0 0 l
 | 8=>amv (agz 1 0 0 l)
 | 9=>apq 0 l
 | 10=>amv (apq 0 l)
 | 11=>ata (l.getD 0 2) (l.getD 1 2) (l.getD 2 2)
 | 12=>avf (l.getD 0 2) (l.getD 1 2)
 | 13=>bj0 l
 | _=>2
def aej (k:Nat) (l:List Nat):Nat:=if l.length < abl k ∨ abm k < l.length then 2 else aeb k l
def vR (v:Nat):V2:=ar3 (aal v)
theorem avu (P:Nat → Prop) (h0:P 0) (h1:P 1) (h2:P 2) (h3:P 3) {v:Nat} (hv:v ≤ 3):P v:=by
 have:v = 0 ∨ v = 1 ∨ v = 2 ∨ v = 3:=by omega
 rcases this with rfl|rfl|rfl|rfl<;>assumption
theorem ay9 {v:Nat} (hv:v ≤ 3):aal (aew v) = ar3 (aal v) ∧ aew v ≤ 3:=
 avu (fun v=>aal (aew v) = ar3 (aal v) ∧ aew v ≤ 3) (by decide) (by decide) (by decide) (by decide) hv
theorem bbk {v:Nat} (hv:v ≤ 3):aal (amv v) = ba7 (ar3 (aal v)) ∧ amv v ≤ 3:=
 avu (fun v=>aal (amv v) = ba7 (ar3 (aal v)) ∧ amv v ≤ 3) (by decide) (by decide) (by decide) (by decide) hv
theorem ali {v:Nat} (hv:v ≤ 2):aal (amv v) = ba7 (aal v) ∧ amv v ≤ 3:=by
 have:v = 0 ∨ v = 1 ∨ v = 2:=by omega
 rcases this with rfl|rfl|rfl<;>decide
theorem be6:∀ (l:List V2),l.foldl aut (false,true) = (false,true)
 | []=>rfl
 | a :: l=>by rw [List.foldl_cons,show aut (false,true) a = (false,true) by simp [aut]];exact be6 l
theorem bix:∀ (l:List V2),l.foldl vOr (true,false) = (true,false)
 | []=>rfl
 | a :: l=>by rw [List.foldl_cons,show vOr (true,false) a = (true,false) by simp [vOr]];exact bix l
theorem auq:∀ (l:List V2),l.foldl aur (false,false) = (false,false)
 | []=>rfl
 | a :: l=>by rw [List.foldl_cons,show aur (false,false) a = (false,false) by simp [aur]];exact auq l
theorem al1:∀ (l:List Nat) (out:Nat),(out = 1 ∨ out = 2) → (∀ v ∈ l,v ≤ 3) → (l.map vR).foldl aut (aal out) = aal (agz 0 1 out l) ∧ agz 0 1 out l ≤ 2
 | [],out,ho,_=>by rcases ho with rfl|rfl<;>decide
 | v :: l,out,ho,hv=>by
  have hl:=fun v h=>hv v (List.mem_cons_of_mem _ h)
  rw [List.map_cons,List.foldl_cons]
  refine avu (fun v=>(l.map vR).foldl aut (aut (aal out) (vR v)) = aal (agz 0 1 out (v :: l)) ∧ agz 0 1 out (v :: l) ≤ 2) ?_ ?_ ?_ ?_ (hv v (List.mem_cons_self ..))
  ·have:aut (aal out) (vR 0) = (false,true):=by rcases ho with rfl|rfl<;>decide
   rw [this,be6];simp only [agz,if_true];decide
  ·have:aut (aal out) (vR 1) = aal out:=by rcases ho with rfl|rfl<;>decide
   rw [this];simp only [agz];exact al1 l out ho hl
  ·have:aut (aal out) (vR 2) = aal 2:=by rcases ho with rfl|rfl<;>decide
   rw [this];simp only [agz];exact al1 l 2 (.inr rfl) hl
  ·have:aut (aal out) (vR 3) = aal 2:=by rcases ho with rfl|rfl<;>decide
   rw [this];simp only [agz];exact al1 l 2 (.inr rfl) hl
theorem ann:∀ (l:List Nat) (out:Nat),(out = 0 ∨ out = 2) → (∀ v ∈ l,v ≤ 3) → (l.map vR).foldl vOr (aal out) = aal (agz 1 0 out l) ∧ agz 1 0 out l ≤ 2
 | [],out,ho,_=>by rcases ho with rfl|rfl<;>decide
 | v :: l,out,ho,hv=>by
  have hl:=fun v h=>hv v (List.mem_cons_of_mem _ h)
  rw [List.map_cons,List.foldl_cons]
  refine avu (fun v=>(l.map vR).foldl vOr (vOr (aal out) (vR v)) = aal (agz 1 0 out (v :: l)) ∧ agz 1 0 out (v :: l) ≤ 2) ?_ ?_ ?_ ?_ (hv v (List.mem_cons_self ..))
  ·have:vOr (aal out) (vR 0) = aal out:=by rcases ho with rfl|rfl<;>decide
   rw [this];simp only [agz];exact ann l out ho hl
  ·have:vOr (aal out) (vR 1) = (true,false):=by rcases ho with rfl|rfl<;>decide
   rw [this,bix];simp only [agz,if_true];decide
  ·have:vOr (aal out) (vR 2) = aal 2:=by rcases ho with rfl|rfl<;>decide
   rw [this];simp only [agz];exact ann l 2 (.inr rfl) hl
  ·have:vOr (aal out) (vR 3) = aal 2:=by rcases ho with rfl|rfl<;>decide
   rw [this];simp only [agz];exact ann l 2 (.inr rfl) hl
theorem amj:∀ (l:List Nat) (out:Nat),(out = 0 ∨ out = 1) → (∀ v ∈ l,v ≤ 3) → (l.map vR).foldl aur (aal out) = aal (apq out l) ∧ apq out l ≤ 2
 | [],out,ho,_=>by rcases ho with rfl|rfl<;>decide
 | v :: l,out,ho,hv=>by
  have hl:=fun v h=>hv v (List.mem_cons_of_mem _ h)
  rw [List.map_cons,List.foldl_cons]
  refine avu (fun v=>(l.map vR).foldl aur (aur (aal out) (vR v)) = aal (apq out (v :: l)) ∧ apq out (v :: l) ≤ 2) ?_ ?_ ?_ ?_ (hv v (List.mem_cons_self ..))
  ·have:aur (aal out) (vR 0) = aal out:=by rcases ho with rfl|rfl<;>decide
   rw [this];simp only [apq,Nat.xor_zero];exact amj l out ho hl
  ·have:aur (aal out) (vR 1) = aal (out ^^^ 1):=by rcases ho with rfl|rfl<;>decide
   rw [this];simp only [apq];exact amj l (out ^^^ 1) (by rcases ho with rfl|rfl<;>decide) hl
  ·have:aur (aal out) (vR 2) = (false,false):=by rcases ho with rfl|rfl<;>decide
   rw [this,auq];exact ⟨rfl,by show (2:Nat) ≤ 2;decide⟩
  ·have:aur (aal out) (vR 3) = (false,false):=by rcases ho with rfl|rfl<;>decide
   rw [this,auq];exact ⟨rfl,by show (2:Nat) ≤ 2;decide⟩
theorem bfu {s a b:Nat} (hs:s ≤ 3) (ha:a ≤ 3) (hb:b ≤ 3):aal (ata s a b) = bnu (vR s) (vR a) (vR b) ∧ ata s a b ≤ 3:=by
 have h:∀ s:Fin 4,∀ a:Fin 4,∀ b:Fin 4,aal (ata s a b) = bnu (vR s) (vR a) (vR b) ∧ ata s a b ≤ 3:=by decide
 exact h ⟨s,by omega⟩ ⟨a,by omega⟩ ⟨b,by omega⟩
theorem bez {e d:Nat} (he:e ≤ 3) (hd:d ≤ 3):aal (avf e d) = bnt (vR e) (vR d) ∧ avf e d ≤ 3:=by
 have h:∀ e:Fin 4,∀ d:Fin 4,aal (avf e d) = bnt (vR e) (vR d) ∧ avf e d ≤ 3:=by decide
 exact h ⟨e,by omega⟩ ⟨d,by omega⟩
theorem bjc:∀ (l:List Nat) (s:Bool × Bool × Bool),(∀ v ∈ l,v ≤ 3) → (l.map aal).foldl ar2 s = (s.1 || decide (1 ∈ l),s.2.1 || decide (0 ∈ l),s.2.2 || decide (2 ∈ l))
 | [],s,_=>by simp
 | v :: l,s,hv=>by
  have hl:=fun v h=>hv v (List.mem_cons_of_mem _ h)
  rw [List.map_cons,List.foldl_cons,bjc l _ hl]
  obtain ⟨a,b,c⟩:=s
  refine avu (fun v=>((ar2 (a,b,c) (aal v)).1 || decide (1 ∈ l),(ar2 (a,b,c) (aal v)).2.1 || decide (0 ∈ l),(ar2 (a,b,c) (aal v)).2.2 || decide (2 ∈ l)) = (a || decide (1 ∈ v :: l),b || decide (0 ∈ v :: l),c || decide (2 ∈ v :: l))) ?_ ?_ ?_ ?_ (hv v (List.mem_cons_self ..)) <;>
   simp [ar2,aal,ac9,List.mem_cons]
theorem bhn (l:List Nat) (hv:∀ v ∈ l,v ≤ 3):aal (bj0 l) = bp1 (l.map aal) ∧ bj0 l ≤ 3:=by
 have hx:l.any (fun v=>decide (ac9 v = 2)) = decide (2 ∈ l):=by
  rw [Bool.eq_iff_iff,List.any_eq_true,decide_eq_true_eq]
  constructor
  ·rintro ⟨v,h,hc⟩
   have h3:=hv v h
   have:v = 2:=by
    revert hc h3;revert v
    intro v _ hc h3
    exact avu (fun v=>decide (ac9 v = 2) = true → v = 2) (by decide) (by decide) (by decide) (by decide) h3 hc
   exact this ▸ h
  ·intro h;exact ⟨2,h,by decide⟩
 unfold bp1 bj0
 rw [bjc l _ hv,hx]
 cases hf:l.findIdx? (fun v=>decide (v ≠ 3)) with
 | none=>
  have hn:=List.findIdx?_eq_none_iff.1 hf
  have h1:∀ k,k ≠ 3 → k ∉ l:=fun k hk hm=>by have:=hn k hm;simp [hk] at this
  simp only [h1 0 (by decide),h1 1 (by decide),h1 2 (by decide),decide_false,Bool.or_false]
  decide
 | some i=>
  obtain ⟨hi,hp,_⟩:=List.findIdx?_eq_some_iff_getElem.1 hf
  have hm:l.getD i 0 ∈ l:=by rw [List.getD,List.getElem?_eq_getElem hi];exact List.getElem_mem hi
  have he:l.getD i 0 ≠ 3:=by rw [List.getD,List.getElem?_eq_getElem hi];simpa using hp
  have h3:=hv _ hm
  show aal (if _ then 2 else l.getD i 0) = _ ∧ (if _ then 2 else l.getD i 0) ≤ 3
  generalize l.getD i 0 = w at hm he h3 ⊢
  have hw:w = 0 ∨ w = 1 ∨ w = 2:=by omega
  simp only [Bool.false_or]
  by_cases h2:2 ∈ l
  ·simp only [h2,decide_true,Bool.or_true,if_true]
   cases decide (1 ∈ l)<;>cases decide (0 ∈ l)<;>decide
  ·simp only [h2,decide_false,Bool.or_false]
   rcases hw with rfl|rfl|rfl
   ·simp only [hm,decide_true,Bool.true_and]
    cases decide (1 ∈ l)<;>decide
   ·simp only [hm,decide_true,Bool.and_true]
    cases decide (0 ∈ l)<;>decide
   ·exact absurd hm h2
theorem bu0 (l:List Nat):(l.map aal).map ar3 = l.map vR:=by rw [List.map_map];rfl
theorem ajr (l:List Nat) (i:Nat) (hi:i < l.length):(l.map vR).getD i (false,false) = vR (l.getD i 2):=by
 simp only [List.getD_eq_getElem?_getD,List.getElem?_map,List.getElem?_eq_getElem hi,Option.map_some,Option.getD_some]
theorem bm1 (l:List Nat) (hv:∀ v ∈ l,v ≤ 3) (i:Nat):l.getD i 2 ≤ 3:=by
 simp only [List.getD_eq_getElem?_getD]
 cases h:l[i]? with
 | none=>decide
 | some v=>exact hv v (List.mem_of_getElem? h)
theorem att (k:Nat) (l:List Nat) (hv:∀ v ∈ l,v ≤ 3):aal (aej k l) = aus k (l.map aal) ∧ aej k l ≤ 3:=by
 unfold aej aus
 rw [List.length_map]
 split
 ·decide
 rename_i hlen
 have lo:abl k ≤ l.length:=by omega
 by_cases h13:k = 13
 ·subst h13;rw [if_pos rfl];exact bhn l hv
 rw [if_neg h13,bu0]
 have g:=bm1 l hv
 unfold aeb
 split
 ·exact ⟨rfl,by decide⟩
 ·exact ⟨rfl,by decide⟩
 ·show aal (aew (l.getD 0 2)) = (l.map vR).getD 0 (false,false) ∧ _
  rw [ajr _ _ (Nat.lt_of_lt_of_le (by decide) lo)];exact ay9 (g 0)
 ·show aal (amv (l.getD 0 2)) = ba7 ((l.map vR).getD 0 (false,false)) ∧ _
  rw [ajr _ _ (Nat.lt_of_lt_of_le (by decide) lo)];exact bbk (g 0)
 ·have:=al1 l 1 (.inl rfl) hv;exact ⟨this.1.symm,by omega⟩
 ·have:=al1 l 1 (.inl rfl) hv
  show aal (amv (agz 0 1 1 l)) = ba7 ((l.map vR).foldl aut (aal 1)) ∧ _
  rw [this.1];exact ali this.2
 ·have:=ann l 0 (.inl rfl) hv;exact ⟨this.1.symm,by omega⟩
 ·have:=ann l 0 (.inl rfl) hv
  show aal (amv (agz 1 0 0 l)) = ba7 ((l.map vR).foldl vOr (aal 0)) ∧ _
  rw [this.1];exact ali this.2
 ·have:=amj l 0 (.inl rfl) hv;exact ⟨this.1.symm,by omega⟩
 ·have:=amj l 0 (.inl rfl) hv
  show aal (amv (apq 0 l)) = ba7 ((l.map vR).foldl aur (aal 0)) ∧ _
  rw [this.1];exact ali this.2
 ·show aal (ata (l.getD 0 2) (l.getD 1 2) (l.getD 2 2)) = bnu ((l.map vR).getD 0 (false,false)) ((l.map vR).getD 1 (false,false)) ((l.map vR).getD 2 (false,false)) ∧ _
  rw [ajr _ _ (Nat.lt_of_lt_of_le (by decide) lo),ajr _ _ (Nat.lt_of_lt_of_le (by decide) lo),ajr _ _ (Nat.lt_of_lt_of_le (by decide) lo)];exact bfu (g 0) (g 1) (g 2)
 ·show aal (avf (l.getD 0 2) (l.getD 1 2)) = bnt ((l.map vR).getD 0 (false,false)) ((l.map vR).getD 1 (false,false)) ∧ _
  rw [ajr _ _ (Nat.lt_of_lt_of_le (by decide) lo),ajr _ _ (Nat.lt_of_lt_of_le (by decide) lo)];exact bez (g 0) (g 1)
 ·exact absurd rfl h13
 ·refine ⟨?_,by decide⟩
  unfold awb
  split<;>first|rfl|(exfalso;simp_all)
end Go.Pc
/- PcTwo: the simulation over values; what is laid into the nets before it begins does not matter. Plain. -/
namespace Go.Pc
open Go.Ax
theorem azp (v:Nat):aal (ac9 v) = aal v:=by
 unfold aal
 have:ac9 (ac9 v) = ac9 v:=by unfold ac9;split<;>simp<;>omega
 rw [this]
theorem axs (v:Nat):ac9 v ≤ 3:=by unfold ac9;split<;>omega
theorem axt {v:Nat} (h:v ≤ 3):ac9 v = v:=by unfold ac9;rw [if_neg (by omega)]
theorem ant {l:List Nat} (h:∀ v ∈ l,v ≤ 3):l.map ac9 = l:=by
 have:=List.map_congr_left (f:=ac9) (g:=fun v=>v) (l:=l) (fun v hv=>axt (h v hv))
 rw [this,List.map_id']
def nAlg:Alg Nat:=⟨fun k l=>aej k (l.map ac9),0,fun v=>v⟩
def vAlg0:Alg V2:=⟨aus,aal 0,aal⟩
theorem bpy:Hom nAlg vAlg0 aal:=by
 refine ⟨fun k l=>?_,rfl,fun v=>rfl⟩
 have h:=(att k (l.map ac9) (fun v hv=>by obtain ⟨w,_,rfl⟩:=List.mem_map.1 hv;exact axs w)).1
 show aal (aej k (l.map ac9)) = aus k (l.map aal)
 rw [h,List.map_map]
 congr 1
 exact List.map_congr_left fun v _=>azp v
theorem aws (k:Nat) (l:List Nat) (h:∀ v ∈ l,v ≤ 3):aej k l ≤ 3:=(att k l h).2
section
variable {α:Type} {A B:Alg α} (hev:A.ev = B.ev) {nodes:List Nd} {h:Hk α}
def Agr (P:Nat → Prop) (a b:List α):Prop:=a.length = b.length ∧ ∀ n,P n → a[n]? = b[n]?
theorem anw:∀ (is:List Nat) (vs:List α) (a b:List α) (P:Nat → Prop),Agr P a b → (∀ i ∈ is,i < a.length) → is.length = vs.length → Agr (fun n=>P n ∨ n ∈ is) (abi a is vs) (abi b is vs)
 | [],vs,a,b,P,hab,_,_=>by
  cases vs<;>exact ⟨hab.1,fun n hn=>hab.2 n (by simpa using hn)⟩
 | i :: is,[],a,b,P,hab,_,hl=>by simp at hl
 | i :: is,v :: vs,a,b,P,hab,hlt,hl=>by
  simp only [abi]
  have:=anw is vs (a.set i v) (b.set i v) (fun n=>P n ∨ n = i) ⟨by simp [hab.1],fun n hn=>by
   rw [List.getElem?_set,List.getElem?_set,← hab.1]
   by_cases hi:i = n
   ·simp [hi]
   ·rw [if_neg hi,if_neg hi]
    rcases hn with hn|hn
    ·exact hab.2 n hn
    ·exact absurd hn.symm hi⟩ (fun j hj=>by rw [List.length_set];exact hlt j (List.mem_cons_of_mem _ hj)) (by simpa using hl)
  refine ⟨this.1,fun n hn=>this.2 n ?_⟩
  rcases hn with hn|hn
  ·exact .inl (.inl hn)
  ·rcases List.mem_cons.1 hn with rfl|hn
   ·exact .inl (.inr rfl)
   ·exact .inr hn
theorem ajo (n:Nat) (a b:List α) (hl:a.length = b.length):∀ (l:List Nat) (p:Nat),(∀ m ∈ l,m < a.length ∧ a[m]? = b[m]?) → ad6 A h n a p l = ad6 B h n b p l
 | [],_,_=>rfl
 | m :: r,p,hm=>by
  obtain ⟨h1,h2⟩:=hm m (List.mem_cons_self ..)
  simp only [ad6,ajo n a b hl r (p + 1) (fun x hx=>hm x (List.mem_cons_of_mem _ hx))]
  congr 2
  rw [List.getD,List.getD,← h2,List.getElem?_eq_getElem h1];rfl
include hev in
theorem axd (S:Nat → Prop):∀ (ord done:List Nat) (a b:List α),Agr (fun n=>n ∈ done ∨ S n) a b → a.length = nodes.length → (∀ n ∈ ord,n < nodes.length) → (∀ n ∈ ord,aaq nodes n = 0 ∨ aaq nodes n = 14 → S n) →
 (∀ (i n:Nat),ord[i]? = some n → aaq nodes n ≠ 0 ∧ aaq nodes n ≠ 14 → ∀ m ∈ ac5 nodes n,m < nodes.length ∧ (m ∈ done ∨ m ∈ ord.take i)) →
 Agr (fun n=>n ∈ done ∨ n ∈ ord ∨ S n) (ord.foldl (stepG A nodes h) a) (ord.foldl (stepG B nodes h) b)
 | [],done,a,b,hab,hl,_,_,_=>⟨hab.1,fun n hn=>hab.2 n (by simpa using hn)⟩
 | x :: ord,done,a,b,hab,hl,hlt,hS,ht=>by
  rw [List.foldl_cons,List.foldl_cons]
  have hx:=hlt x (List.mem_cons_self ..)
  have hst:(if aaq nodes x ≠ 0 ∧ aaq nodes x ≠ 14 then A.ev (aaq nodes x) (aap A nodes h a x) else a.getD x A.z) = (if aaq nodes x ≠ 0 ∧ aaq nodes x ≠ 14 then B.ev (aaq nodes x) (aap B nodes h b x) else b.getD x B.z):=by
   by_cases hk:aaq nodes x ≠ 0 ∧ aaq nodes x ≠ 14
   ·rw [if_pos hk,if_pos hk,hev]
    congr 1
    refine ajo x a b hab.1 _ 0 (fun m hm=>?_)
    obtain ⟨h1,h2⟩:=ht 0 x rfl hk m hm
    refine ⟨by omega,hab.2 m (.inl ?_)⟩
    rcases h2 with h2|h2
    ·exact h2
    ·simp at h2
   ·rw [if_neg hk,if_neg hk]
    have h1:=hab.2 x (.inr (hS x (List.mem_cons_self ..) (by omega)))
    rw [List.getD,List.getD,← h1,List.getElem?_eq_getElem (by omega)];rfl
  have hstep:Agr (fun n=>n ∈ x :: done ∨ S n) (stepG A nodes h a x) (stepG B nodes h b x):=by
   unfold stepG
   rw [hst]
   refine ⟨by simp [hab.1],fun n hn=>?_⟩
   rw [List.getElem?_set,List.getElem?_set,← hab.1]
   by_cases hi:x = n
   ·simp [hi]
   ·rw [if_neg hi,if_neg hi]
    refine hab.2 n ?_
    rcases hn with hn|hn
    ·rcases List.mem_cons.1 hn with rfl|hn
     ·exact absurd rfl hi
     ·exact .inl hn
    ·exact .inr hn
  have:=axd S ord (x :: done) _ _ hstep (by rw [asr];exact hl) (fun n hn=>hlt n (List.mem_cons_of_mem _ hn)) (fun n hn=>hS n (List.mem_cons_of_mem _ hn)) (fun i n hi hk m hm=>by
   obtain ⟨h1,h2⟩:=ht (i + 1) n (by simpa using hi) hk m hm
   refine ⟨h1,?_⟩
   rcases h2 with h2|h2
   ·exact .inl (List.mem_cons_of_mem _ h2)
   ·rw [List.take_succ_cons] at h2
    rcases List.mem_cons.1 h2 with rfl|h2
    ·exact .inl (List.mem_cons_self ..)
    ·exact .inr h2)
  refine ⟨this.1,fun n hn=>this.2 n ?_⟩
  rcases hn with hn|hn|hn
  ·exact .inl (List.mem_cons_of_mem _ hn)
  ·rcases List.mem_cons.1 hn with rfl|hn
   ·exact .inl (List.mem_cons_self ..)
   ·exact .inr (.inl hn)
  ·exact .inr (.inr hn)
include hev in
theorem bl7 {ord ins sts:List Nat} {vi vs:List α} (hp:ord.Perm (List.range nodes.length)) (ht:bov nodes ord) (hcomb:∀ n,n < nodes.length → aaq nodes n ≠ 0 ∧ aaq nodes n ≠ 14 → abr (aaq nodes n) = true)
 (hin:∀ n,n < nodes.length → ∀ m ∈ ac5 nodes n,m < nodes.length) (hi:∀ n,n < nodes.length → aaq nodes n = 0 → n ∈ ins) (hs:∀ n,n < nodes.length → aaq nodes n = 14 → n ∈ sts)
 (hil:∀ i ∈ ins,i < nodes.length) (hsl:∀ i ∈ sts,i < nodes.length) (hvi:ins.length = vi.length) (hvs:sts.length = vs.length):amf A nodes h ord ins sts vi vs = amf B nodes h ord ins sts vi vs:=by
 have h0:Agr (fun _=>False) (List.replicate nodes.length A.z) (List.replicate nodes.length B.z):=⟨by simp,fun n hn=>hn.elim⟩
 have h1:=anw ins vi _ _ _ h0 (fun i hh=>by simpa using hil i hh) hvi
 have h2:=anw sts vs _ _ _ h1 (fun i hh=>by rw [acf];simpa using hsl i hh) hvs
 have hlen:(abi (abi (List.replicate nodes.length A.z) ins vi) sts vs).length = nodes.length:=by rw [acf,acf];simp
 have hmem:∀ n,n ∈ ord ↔ n < nodes.length:=fun n=>by rw [hp.mem_iff];simp
 have h3:=axd (nodes:=nodes) (h:=h) hev (fun n=>(False ∨ n ∈ ins) ∨ n ∈ sts) ord [] _ _ ⟨h2.1,fun n hn=>h2.2 n (by simpa using hn)⟩ hlen (fun n hn=>(hmem n).1 hn) (fun n hn hk=>by
  have hn:=(hmem n).1 hn
  rcases hk with hk|hk
  ·exact .inl (.inr (hi n hn hk))
  ·exact .inr (hs n hn hk)) (fun i n hin' hk m hm=>by
  have hn:=(hmem n).1 (List.mem_of_getElem? hin')
  exact ⟨hin n hn m hm,.inr (ht i n hin' (hcomb n hn hk) m hm)⟩)
 unfold amf
 apply List.ext_getElem?
 intro n
 by_cases hn:n < nodes.length
 ·exact h3.2 n (.inr (.inl ((hmem n).2 hn)))
 ·rw [List.getElem?_eq_none (by rw [aj7,hlen];omega),List.getElem?_eq_none (by rw [aj7,← h2.1,hlen];omega)]
omit hev in
theorem bkf {outs sts:List Nat} {nets:List α} (ho:∀ n ∈ outs,n < nets.length) (hs:∀ n ∈ sts,ac5 nodes n ≠ [] ∧ ∀ m ∈ ac5 nodes n,m < nets.length):anc A nodes h outs sts nets = anc B nodes h outs sts nets:=by
 unfold anc
 congr 1
 ·exact List.map_congr_left fun n hn=>by rw [List.getD,List.getD,List.getElem?_eq_getElem (ho n hn)];rfl
 ·refine List.map_congr_left fun n hn=>?_
  obtain ⟨h1,h2⟩:=hs n hn
  have e:aap A nodes h nets n = aap B nodes h nets n:=ajo n nets nets rfl _ 0 (fun m hm=>⟨h2 m hm,rfl⟩)
  rw [e]
  have hl:0 < (aap B nodes h nets n).length:=by rw [adx];exact List.length_pos_iff.2 h1
  rw [List.getD,List.getD,List.getElem?_eq_getElem hl];rfl
end
end Go.Pc
/- PcDet: what a pattern detects, by values: the responses of the two runs contradict each other. Plain. -/
namespace Go.Pc
open Go.Ax
def con (x y:Nat):Bool:=decide (x ≤ 1) && decide (y ≤ 1) && decide (x ≠ y)
def am9:List Nat → List Nat → Bool
 | x :: xs,y :: ys=>con x y || am9 xs ys
 | _,_=>false
theorem bhi {x y:Nat} (hx:x ≤ 3) (hy:y ≤ 3):br8 (aal x) (aal y) = con x y:=by
 have h:∀ x:Fin 4,∀ y:Fin 4,br8 (aal x) (aal y) = con x y:=by decide
 exact h ⟨x,by omega⟩ ⟨y,by omega⟩
theorem bhh {x y:Nat} (hx:x ≤ 3) (hy:y ≤ 3):con (aew x) (if y = 3 then 2 else y) = con x y:=by
 have h:∀ x:Fin 4,∀ y:Fin 4,con (aew x) (if (y:Nat) = 3 then 2 else y) = con x y:=by decide
 exact h ⟨x,by omega⟩ ⟨y,by omega⟩
theorem apt:∀ (a b:List Nat) (s:Bool),(∀ v ∈ a,v ≤ 3) → (∀ v ∈ b,v ≤ 3) → asn (a.map aal) (b.map aal) s = (s || am9 a b)
 | [],b,s,_,_=>by cases b<;>simp [asn,am9]
 | x :: xs,[],s,_,_=>by simp [asn,am9]
 | x :: xs,y :: ys,s,ha,hb=>by
  simp only [List.map_cons,asn,am9]
  rw [apt xs ys _ (fun v h=>ha v (List.mem_cons_of_mem _ h)) (fun v h=>hb v (List.mem_cons_of_mem _ h)),bhi (ha x (List.mem_cons_self ..)) (hb y (List.mem_cons_self ..)),Bool.or_assoc]
theorem aou:∀ (a b c d:List Nat),a.length = b.length → am9 (a ++ c) (b ++ d) = (am9 a b || am9 c d)
 | [],[],c,d,_=>by simp [am9]
 | [],_ :: _,_,_,h=>by simp at h
 | _ :: _,[],_,_,h=>by simp at h
 | x :: xs,y :: ys,c,d,h=>by
  simp only [List.cons_append,am9]
  rw [aou xs ys c d (by simpa using h),Bool.or_assoc]
theorem axp {α:Type} (f g f' g':α → Nat):∀ (l:List α),(∀ x ∈ l,con (f x) (g x) = con (f' x) (g' x)) → am9 (l.map f) (l.map g) = am9 (l.map f') (l.map g')
 | [],_=>rfl
 | x :: l,h=>by
  simp only [List.map_cons,am9]
  rw [h x (List.mem_cons_self ..),axp f g f' g' l (fun y hy=>h y (List.mem_cons_of_mem _ hy))]
def aht (nodes:List Nd) (h:Hk Nat) (nets:List Nat) (sts:List Nat):List Nat:=sts.map fun n=>if (aap nAlg nodes h nets n).getD 0 0 = 3 then 2 else (aap nAlg nodes h nets n).getD 0 0
def bic (h:Hk Nat):Prop:=(∀ n v,v ≤ 3 → h.net n v ≤ 3) ∧ ∀ n p v,v ≤ 3 → h.pin n p v ≤ 3
theorem bcq:bic hk0:=⟨fun _ _ h=>h,fun _ _ _ h=>h⟩
theorem bj2 {f:Flt} {v:Nat} (h:v ≤ 3):bic (hkF f v):=by
 constructor
 ·intro n w hw;unfold hkF;dsimp only;split
  ·exact h
  ·exact hw
 ·intro n p w hw;unfold hkF;dsimp only;split
  ·exact h
  ·exact hw
theorem agr {l:List Nat} (h:∀ v ∈ l,v ≤ 3) (n:Nat):l.getD n 0 ≤ 3:=by
 rw [List.getD]
 cases hn:l[n]? with
 | none=>decide
 | some v=>exact h v (List.mem_of_getElem? hn)
theorem awk {h:Hk Nat} (hh:bic h) {nets:List Nat} (hn:∀ v ∈ nets,v ≤ 3) (n:Nat):∀ (l:List Nat) (p:Nat),∀ v ∈ ad6 nAlg h n nets p l,v ≤ 3
 | [],p,v,hv=>by simp [ad6] at hv
 | m :: l,p,v,hv=>by
  simp only [ad6,List.mem_cons] at hv
  rcases hv with rfl|hv
  ·exact hh.2 _ _ _ (agr hn m)
  ·exact awk hh hn n l (p + 1) v hv
theorem bbo (k:Nat) (l:List Nat):nAlg.ev k l ≤ 3:=aws k _ (fun v hv=>by obtain ⟨w,_,rfl⟩:=List.mem_map.1 hv;exact axs w)
theorem ban {nodes:List Nd} {h:Hk Nat} (hh:bic h) {nets:List Nat} (hn:∀ v ∈ nets,v ≤ 3) (n:Nat):∀ v ∈ stepG nAlg nodes h nets n,v ≤ 3:=by
 intro v hv
 unfold stepG at hv
 rcases List.mem_or_eq_of_mem_set hv with h1|h1
 ·exact hn v h1
 ·rw [h1]
  refine hh.1 _ _ ?_
  split
  ·exact bbo _ _
  ·exact agr hn n
theorem bd0 {nodes:List Nd} {h:Hk Nat} (hh:bic h):∀ (ord:List Nat) (nets:List Nat),(∀ v ∈ nets,v ≤ 3) → ∀ v ∈ ord.foldl (stepG nAlg nodes h) nets,v ≤ 3
 | [],nets,hn=>hn
 | x :: ord,nets,hn=>by rw [List.foldl_cons];exact bd0 hh ord _ (ban hh hn x)
theorem anu:∀ (is vs N:List Nat),(∀ v ∈ N,v ≤ 3) → (∀ v ∈ vs,v ≤ 3) → ∀ v ∈ abi N is vs,v ≤ 3
 | [],vs,N,h,_=>by cases vs<;>exact h
 | _ :: _,[],N,h,_=>h
 | i :: is,w :: vs,N,h,hv=>by
  simp only [abi]
  refine anu is vs _ (fun v hm=>?_) (fun v hm=>hv v (List.mem_cons_of_mem _ hm))
  rcases List.mem_or_eq_of_mem_set hm with h1|h1
  ·exact h v h1
  ·rw [h1];exact hv w (List.mem_cons_self ..)
theorem arq {nodes:List Nd} {h:Hk Nat} (hh:bic h) (ord ins sts vi vs:List Nat) (hi:∀ v ∈ vi,v ≤ 3) (hs:∀ v ∈ vs,v ≤ 3):∀ v ∈ amf nAlg nodes h ord ins sts vi vs,v ≤ 3:=
 bd0 hh _ _ (anu _ _ _ (anu _ _ _ (fun v hv=>by rw [List.eq_of_mem_replicate hv];show (0:Nat) ≤ 3;decide) hi) hs)
structure Sim.good (S:Sim):Prop where
 perm:S.ord.Perm (List.range S.nodes.length)
 topo:bov S.nodes S.ord
 comb:∀ n,n < S.nodes.length → aaq S.nodes n ≠ 0 ∧ aaq S.nodes n ≠ 14 → abr (aaq S.nodes n) = true
 inn:∀ n,n < S.nodes.length → ∀ m ∈ ac5 S.nodes n,m < S.nodes.length
 ins:∀ n,n ∈ S.ins ↔ n < S.nodes.length ∧ aaq S.nodes n = 0
 sts:∀ n,n ∈ S.sts ↔ n < S.nodes.length ∧ aaq S.nodes n = 14
 dff:∀ n ∈ S.sts,ac5 S.nodes n ≠ []
 outs:∀ n ∈ S.outs,n < S.nodes.length
section
variable {S:Sim} (hS:S.good) {p:Pat} (hpi:S.ins.length = p.ins.length) (hps:S.sts.length = p.sts.length)
include hS hpi hps
theorem Sim.good.nets (h:Hk V2):S.nets vAlg h (p.ins.map aal) (p.sts.map aal) = S.nets vAlg0 h (p.ins.map aal) (p.sts.map aal):=
 bl7 (A:=vAlg) (B:=vAlg0) rfl hS.perm hS.topo hS.comb hS.inn (fun n hn hk=>(hS.ins n).2 ⟨hn,hk⟩) (fun n hn hk=>(hS.sts n).2 ⟨hn,hk⟩) (fun n hn=>((hS.ins n).1 hn).1) (fun n hn=>((hS.sts n).1 hn).1) (by simpa using hpi) (by simpa using hps)
omit hpi hps in
theorem Sim.good.seen (h:Hk V2) (nets:List V2) (hl:nets.length = S.nodes.length):S.seen vAlg h nets = S.seen vAlg0 h nets:=
 bkf (fun n hn=>by rw [hl];exact hS.outs n hn) (fun n hn=>⟨hS.dff n hn,fun m hm=>by rw [hl];exact hS.inn n ((hS.sts n).1 hn).1 m hm⟩)
theorem Sim.good.det (f:Flt) (hm:f.model = 0 → f.value ≤ 3) (hfn:f.node < S.nodes.length) (hfo:f.other < S.nodes.length) (hiv:∀ v ∈ p.ins,v ≤ 3) (hsv:∀ v ∈ p.sts,v ≤ 3) :
 S.det f p = (am9 (S.outs.map fun n=>(S.nets nAlg hk0 p.ins p.sts).getD n 0) (S.outs.map fun n=>(S.nets nAlg (hkF f (ab0 nAlg (S.nets nAlg hk0 p.ins p.sts) f)) p.ins p.sts).getD n 0) ||
  am9 (S.sts.map fun n=>aew ((S.nets nAlg hk0 p.ins p.sts).getD ((ac5 S.nodes n).getD 0 0) 0)) (aht S.nodes (hkF f (ab0 nAlg (S.nets nAlg hk0 p.ins p.sts) f)) (S.nets nAlg (hkF f (ab0 nAlg (S.nets nAlg hk0 p.ins p.sts) f)) p.ins p.sts) S.sts)):=by
 have hG:S.nets vAlg hk0 (p.ins.map aal) (p.sts.map aal) = (S.nets nAlg hk0 p.ins p.sts).map aal:=by
  rw [hS.nets hpi hps]
  exact (ake bpy arz _ _ _ _ _).symm
 have hGl:(S.nets nAlg hk0 p.ins p.sts).length = S.nodes.length:=aio _ _ _ _ _
 have hGv:∀ v ∈ S.nets nAlg hk0 p.ins p.sts,v ≤ 3:=arq bcq _ _ _ _ _ hiv hsv
 generalize hgd:S.nets nAlg hk0 p.ins p.sts = G at hG hGl hGv
 have hF:ab0 vAlg (G.map aal) f = aal (ab0 nAlg G f):=by
  have h1:=aqm bpy G f
  rw [h1]
  unfold ab0
  have hz:∀ n,n < S.nodes.length → (G.map aal).getD n vAlg.z = (G.map aal).getD n vAlg0.z:=fun n hn=>by
   rw [List.getD,List.getD,List.getElem?_eq_getElem (by rw [List.length_map,hGl];exact hn)];rfl
  rw [hz _ hfn,hz _ hfo]
  rfl
 have hFv:ab0 nAlg G f ≤ 3:=by
  unfold ab0
  split
  ·rename_i h;exact hm h
  split
  ·exact agr hGv _
  split<;>exact bbo _ _
 have hh:=bj2 (f:=f) hFv
 have hB:S.nets vAlg (hkF f (aal (ab0 nAlg G f))) (p.ins.map aal) (p.sts.map aal) = (S.nets nAlg (hkF f (ab0 nAlg G f)) p.ins p.sts).map aal:=by
  rw [hS.nets hpi hps]
  exact (ake bpy (avq f _) _ _ _ _ _).symm
 have hBl:(S.nets nAlg (hkF f (ab0 nAlg G f)) p.ins p.sts).length = S.nodes.length:=aio _ _ _ _ _
 have hBv:∀ v ∈ S.nets nAlg (hkF f (ab0 nAlg G f)) p.ins p.sts,v ≤ 3:=arq hh _ _ _ _ _ hiv hsv
 unfold Sim.det
 dsimp only
 rw [hG,hF,hB]
 generalize ab0 nAlg G f = q at hh hB hBl hBv ⊢
 generalize S.nets nAlg (hkF f q) p.ins p.sts = B at hB hBl hBv ⊢
 rw [hS.seen hk0 _ (by rw [List.length_map];exact hGl),hS.seen (hkF f (aal q)) _ (by rw [List.length_map];exact hBl)]
 have e1:S.seen vAlg0 hk0 (G.map aal) = (S.seen nAlg hk0 G).map aal:=(ak6 bpy arz _ _ _).symm
 have e2:S.seen vAlg0 (hkF f (aal q)) (B.map aal) = (S.seen nAlg (hkF f q) B).map aal:=(ak6 bpy (avq f _) _ _ _).symm
 rw [e1,e2]
 have key:∀ (h:Hk Nat) (N:List Nat),bic h → (∀ v ∈ N,v ≤ 3) → ∀ v ∈ S.seen nAlg h N,v ≤ 3:=by
  intro h N hh hN v hv
  unfold Sim.seen anc at hv
  rcases List.mem_append.1 hv with hv|hv
  ·obtain ⟨n,_,rfl⟩:=List.mem_map.1 hv;exact agr hN n
  ·obtain ⟨n,_,rfl⟩:=List.mem_map.1 hv;exact agr (fun v hv=>awk hh hN n _ _ v hv) 0
 rw [apt _ _ _ (key _ _ bcq hGv) (key _ _ hh hBv),Bool.false_or]
 unfold Sim.seen anc
 rw [aou _ _ _ _ (by simp)]
 congr 1
 unfold aht
 refine axp _ _ _ _ _ (fun n hn=>?_)
 have hr:(aap nAlg S.nodes hk0 G n).getD 0 0 = G.getD ((ac5 S.nodes n).getD 0 0) 0:=by
  have hd:=hS.dff n hn
  unfold aap
  cases hi:ac5 S.nodes n with
  | nil=>exact absurd hi hd
  | cons m l=>rfl
 have hx:G.getD ((ac5 S.nodes n).getD 0 0) 0 ≤ 3:=agr hGv _
 have hy:(aap nAlg S.nodes (hkF f q) B n).getD 0 0 ≤ 3:=agr (fun v hv=>awk hh hBv n _ _ v hv) 0
 show con ((aap nAlg S.nodes hk0 G n).getD 0 0) _ = _
 rw [hr,bhh hx hy]
 rfl
end
end Go.Pc
