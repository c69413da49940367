/- PcWord: words of 64 values as plain data. Plain definitions. -/
import Derived.Test.YtllalbnibhofiaaGreatDoorPcCir
import Derived.Test.YtllalbnibhofiaaGreatDoorAxE
set_option linter.unusedSimpArgs false
set_option linter.unusedVariables false
namespace Go.Pc
open Go.Ax
structure W where
 one:BitVec 64
 zero:BitVec 64
def W.enc (w:W):List AV:=[u64 w.one,u64 w.zero]
attribute [go_sem] W.enc
def clean (v:Nat):Nat:=if 3 < v then 2 else v
def wFill (v:Nat):W:=match clean v with
 | 0=>⟨0#64,BitVec.allOnes 64⟩
 | 1=>⟨BitVec.allOnes 64,0#64⟩
 | 2=>⟨0#64,0#64⟩
 | _=>⟨BitVec.allOnes 64,BitVec.allOnes 64⟩
def wAnd (a b:W):W:=⟨a.one &&& b.one,a.zero ||| b.zero⟩
def wOr (a b:W):W:=⟨a.one ||| b.one,a.zero &&& b.zero⟩
def wXor (a b:W):W:=⟨a.one &&& b.zero ||| a.zero &&& b.one,a.one &&& b.one ||| a.zero &&& b.zero⟩
def wFold (f:W → W → W) (z:W) (l:List W):W:=l.foldl f z
def wRead (w:W):W:=⟨w.one &&& ~~~(w.one &&& w.zero),w.zero &&& ~~~(w.one &&& w.zero)⟩
def wNot (w:W):W:=⟨w.zero,w.one⟩
def wMux (s a b:W):W:=⟨s.zero &&& a.one ||| s.one &&& b.one ||| a.one &&& b.one,s.zero &&& a.zero ||| s.one &&& b.zero ||| a.zero &&& b.zero⟩
def wTri (e d:W):W:=⟨e.zero ||| e.one &&& d.one,e.zero ||| e.one &&& d.zero⟩
def busF (s:BitVec 64 × BitVec 64 × BitVec 64) (w:W):BitVec 64 × BitVec 64 × BitVec 64:=(s.1 ||| (w.one &&& ~~~w.zero),s.2.1 ||| (w.zero &&& ~~~w.one),s.2.2 ||| ~~~(w.one ||| w.zero))
def busS (l:List W):BitVec 64 × BitVec 64 × BitVec 64:=l.foldl busF (BitVec.ofInt 64 0,BitVec.ofInt 64 0,BitVec.ofInt 64 0)
def busE (s:BitVec 64 × BitVec 64 × BitVec 64):W:=⟨~~~s.2.1 &&& ~~~(s.2.2 ||| (s.1 &&& s.2.1)),~~~s.1 &&& ~~~(s.2.2 ||| (s.1 &&& s.2.1))⟩
def wBus (l:List W):W:=busE (busS l)
theorem busS_succ {l:List W} {i:Nat} {x:W} (h:l[i]? = some x):busS (l.take (i + 1)) = busF (busS (l.take i)) x:=by
 unfold busS;rw [take_snoc h,List.foldl_append];rfl
theorem wFold_succ {f:W → W → W} {z:W} {l:List W} {i:Nat} {x:W} (h:l[i]? = some x):wFold f z (l.take (i + 1)) = f (wFold f z (l.take i)) x:=by
 unfold wFold;rw [take_snoc h,List.foldl_append];rfl
theorem flatW (l:List W):FlatR (l.map W.enc):=FlatR.map fun _=>rfl
theorem flat_w (l:List W):(l.map W.enc).flatMap refsL = []:=refs_flatR (flatW l)
theorem ren_w (π:Nat → Option Nat) (l:List W):(l.map W.enc).map (fun r=>r.map (ren π)) = l.map W.enc:=renR_flat π (flatW l)
attribute [go_sem] flat_w ren_w
def faninLo (k:Nat):Nat:=[0,0,0,1,1,2,2,2,2,2,2,3,2,1,1,0].getD k 0
def faninHi (k:Nat):Nat:=[0,0,0,1,1,16,16,16,16,16,16,3,2,16,1,0].getD k 0
def zW:W:=⟨0#64,0#64⟩
def wEvalR (k:Nat) (r:List W):W:=match k with
 | 1=>wFill 0
 | 2=>wFill 1
 | 3=>r.getD 0 zW
 | 4=>wNot (r.getD 0 zW)
 | 5=>wFold wAnd (wFill 1) r
 | 6=>wNot (wFold wAnd (wFill 1) r)
 | 7=>wFold wOr (wFill 0) r
 | 8=>wNot (wFold wOr (wFill 0) r)
 | 9=>wFold wXor (wFill 0) r
 | 10=>wNot (wFold wXor (wFill 0) r)
 | 11=>wMux (r.getD 0 zW) (r.getD 1 zW) (r.getD 2 zW)
 | 12=>wTri (r.getD 0 zW) (r.getD 1 zW)
 | _=>wFill 2
def wEval (k:Nat) (l:List W):W:=
 if l.length < faninLo k ∨ faninHi k < l.length then wFill 2
 else if k = 13 then wBus l
 else wEvalR k (l.map wRead)
def rdW (l:List W) (i:Nat):List W:=(l.take i).map wRead ++ List.replicate (l.length - i) zW
theorem rdW_zero (l:List W):rdW l 0 = List.replicate l.length zW:=by simp [rdW]
theorem rdW_all (l:List W):rdW l l.length = l.map wRead:=by simp [rdW]
theorem rdW_get {l:List W} {i:Nat} (h:i < l.length):(rdW l i)[i]? = some zW:=by
 unfold rdW
 rw [List.getElem?_append_right (by simp;omega)]
 simp [List.getElem?_replicate]
 omega
theorem rdW_set {l:List W} {i:Nat} {x:W} (h:l[i]? = some x):(rdW l i).set i (wRead x) = rdW l (i + 1):=by
 have hi:=(List.getElem?_eq_some_iff.1 h).1
 unfold rdW
 rw [List.set_append_right _ _ (by simp;omega),take_snoc h,List.map_append,List.append_assoc]
 congr 1
 have e:l.length - i = (l.length - (i + 1)) + 1:=by omega
 rw [e,List.replicate_succ]
 have e2:i - ((l.take i).map wRead).length = 0:=by simp;omega
 rw [e2]
 rfl
theorem rdW_setR {l:List W} {i:Nat} {x:W} (h:l[i]? = some x):((rdW l i).map W.enc).set i [u64 (wRead x).one,u64 (wRead x).zero] = (rdW l (i + 1)).map W.enc:=by
 rw [← rdW_set h,List.map_set];rfl
def bitW (n:Nat):BitVec 64:=BitVec.ofInt 64 1 <<< n
def wPlace (w:W) (n v:Nat):W:=⟨w.one &&& ~~~bitW n ||| (wFill v).one &&& bitW n,w.zero &&& ~~~bitW n ||| (wFill v).zero &&& bitW n⟩
def isComb (k:Nat):Bool:=decide (1 ≤ k) && decide (k ≤ 13)
end Go.Pc
/- PcSim: one cycle of a circuit, over words or over single values; lanes of words are single values. Plain definitions. -/
namespace Go.Pc
open Go.Ax
structure Alg (α:Type) where
 ev:Nat → List α → α
 z:α
 fill:Nat → α
structure Hk (α:Type) where
 net:Nat → α → α
 pin:Nat → Nat → α → α
structure Flt where
 model:Nat
 node:Nat
 pin:Int
 value:Nat
 other:Nat
def Flt.enc (f:Flt):List AV:=[.int .u8 f.model,.int .i64 f.node,.int .i64 f.pin,.int .u8 f.value,.int .i64 f.other]
structure Pat where
 ic:Rep
 ins:List Nat
 sc:Rep
 sts:List Nat
def Pat.enc (p:Pat):List AV:=[sl p.ic (p.ins.map u8R),sl p.sc (p.sts.map u8R)]
section
variable {α:Type} (A:Alg α) (nodes:List Nd) (h:Hk α)
def kindAt (nodes:List Nd) (n:Nat):Nat:=(nodes[n]?.map Nd.kind).getD 0
def insAt (nodes:List Nd) (n:Nat):List Nat:=(nodes[n]?.map Nd.ins).getD []
def rdsFrom (n:Nat) (nets:List α):Nat → List Nat → List α
 | _,[]=>[]
 | p,m :: r=>h.pin n p (nets.getD m A.z) :: rdsFrom n nets (p + 1) r
def readsG (nets:List α) (n:Nat):List α:=rdsFrom A h n nets 0 (insAt nodes n)
def stepG (nets:List α) (n:Nat):List α:=
 nets.set n (h.net n (if kindAt nodes n ≠ 0 ∧ kindAt nodes n ≠ 14 then A.ev (kindAt nodes n) (readsG A nodes h nets n) else nets.getD n A.z))
def loadG (nets:List α):List Nat → List α → List α
 | i :: is,v :: vs=>loadG (nets.set i v) is vs
 | _,_=>nets
def netsG (ord ins sts:List Nat) (vi vs:List α):List α:=
 ord.foldl (stepG A nodes h) (loadG (loadG (List.replicate nodes.length A.z) ins vi) sts vs)
def seenG (outs sts:List Nat) (nets:List α):List α:=
 outs.map (fun n=>nets.getD n A.z) ++ sts.map (fun n=>(readsG A nodes h nets n).getD 0 A.z)
def hk0:Hk α:=⟨fun _ w=>w,fun _ _ w=>w⟩
def faultG (good:List α) (f:Flt):α:=
 if f.model = 0 then A.fill f.value
 else if f.model = 3 then good.getD f.other A.z
 else if f.value = 0 then A.ev 5 [good.getD f.node A.z,good.getD f.other A.z]
 else A.ev 7 [good.getD f.node A.z,good.getD f.other A.z]
def Flt.hitsNet (f:Flt) (n:Nat):Bool:=decide (f.pin < 0) && (decide (n = f.node) || (decide (f.model = 2) && decide (n = f.other)))
def Flt.hitsPin (f:Flt) (n p:Nat):Bool:=decide (0 ≤ f.pin) && (decide (n = f.node) && decide ((p:Int) = f.pin))
def hkF (f:Flt) (v:α):Hk α:=⟨fun n w=>if f.hitsNet n then v else w,fun n p w=>if f.hitsPin n p then v else w⟩
end
structure Hom {α β:Type} (A:Alg α) (B:Alg β) (φ:α → β):Prop where
 ev:∀ k l,φ (A.ev k l) = B.ev k (l.map φ)
 z:φ A.z = B.z
 fill:∀ v,φ (A.fill v) = B.fill v
structure HkHom {α β:Type} (φ:α → β) (h:Hk α) (k:Hk β):Prop where
 net:∀ n w,φ (h.net n w) = k.net n (φ w)
 pin:∀ n p w,φ (h.pin n p w) = k.pin n p (φ w)
section
variable {α β:Type} {A:Alg α} {B:Alg β} {φ:α → β} (hφ:Hom A B φ) {nodes:List Nd} {h:Hk α} {k:Hk β} (hk:HkHom φ h k)
include hφ
theorem getD_hom (l:List α) (n:Nat):φ (l.getD n A.z) = (l.map φ).getD n B.z:=by
 simp only [List.getD_eq_getElem?_getD,List.getElem?_map]
 cases l[n]? with
 | none=>exact hφ.z
 | some x=>rfl
include hk
theorem rdsFrom_hom (n:Nat) (nets:List α):∀ (l:List Nat) (p:Nat),(rdsFrom A h n nets p l).map φ = rdsFrom B k n (nets.map φ) p l
 | [],_=>rfl
 | m :: r,p=>by simp only [rdsFrom,List.map_cons,hk.pin,getD_hom hφ,rdsFrom_hom n nets r (p + 1)]
theorem readsG_hom (nets:List α) (n:Nat):(readsG A nodes h nets n).map φ = readsG B nodes k (nets.map φ) n:=rdsFrom_hom hφ hk n nets _ 0
theorem stepG_hom (nets:List α) (n:Nat):(stepG A nodes h nets n).map φ = stepG B nodes k (nets.map φ) n:=by
 unfold stepG
 rw [List.map_set,hk.net]
 congr 2
 split
 ·rw [hφ.ev,readsG_hom hφ hk]
 ·exact getD_hom hφ _ _
omit hk in
omit hφ in
theorem loadG_hom:∀ (is:List Nat) (vs:List α) (nets:List α),(loadG nets is vs).map φ = loadG (nets.map φ) is (vs.map φ)
 | [],vs,nets=>by cases vs<;>rfl
 | i :: is,[],nets=>rfl
 | i :: is,v :: vs,nets=>by simp only [loadG,List.map_cons,loadG_hom is vs,List.map_set]
theorem netsG_hom (ord ins sts:List Nat) (vi vs:List α):(netsG A nodes h ord ins sts vi vs).map φ = netsG B nodes k ord ins sts (vi.map φ) (vs.map φ):=by
 unfold netsG
 have key:∀ (ord:List Nat) (n0:List α),(ord.foldl (stepG A nodes h) n0).map φ = ord.foldl (stepG B nodes k) (n0.map φ):=by
  intro ord
  induction ord with
  | nil=>intro n0;rfl
  | cons a l ih=>intro n0;simp only [List.foldl_cons,ih,stepG_hom hφ hk]
 rw [key,loadG_hom,loadG_hom,List.map_replicate,hφ.z]
theorem seenG_hom (outs sts:List Nat) (nets:List α):(seenG A nodes h outs sts nets).map φ = seenG B nodes k outs sts (nets.map φ):=by
 unfold seenG
 simp only [List.map_append,List.map_map]
 congr 1
 ·exact List.map_congr_left fun n _=>getD_hom hφ _ _
 ·refine List.map_congr_left fun n _=>?_
  simp only [Function.comp,getD_hom hφ,readsG_hom hφ hk]
omit hk in
theorem faultG_hom (good:List α) (f:Flt):φ (faultG A good f) = faultG B (good.map φ) f:=by
 unfold faultG
 split
 ·exact hφ.fill _
 split
 ·exact getD_hom hφ _ _
 split
 ·rw [hφ.ev];simp only [List.map_cons,List.map_nil,getD_hom hφ]
 ·rw [hφ.ev];simp only [List.map_cons,List.map_nil,getD_hom hφ]
omit hk hφ in
theorem hk0_hom:HkHom φ (hk0:Hk α) (hk0:Hk β):=⟨fun _ _=>rfl,fun _ _ _=>rfl⟩
omit hk hφ in
theorem hkF_hom (f:Flt) (v:α):HkHom φ (hkF f v) (hkF f (φ v)):=⟨fun n w=>by unfold hkF;dsimp only;split<;>rfl,fun n p w=>by unfold hkF;dsimp only;split<;>rfl⟩
end
/-! ### single values -/
abbrev V2:=Bool × Bool
def vFill (v:Nat):V2:=match clean v with
 | 0=>(false,true)
 | 1=>(true,false)
 | 2=>(false,false)
 | _=>(true,true)
def vAnd (a b:V2):V2:=(a.1 && b.1,a.2 || b.2)
def vOr (a b:V2):V2:=(a.1 || b.1,a.2 && b.2)
def vXor (a b:V2):V2:=(a.1 && b.2 || a.2 && b.1,a.1 && b.1 || a.2 && b.2)
def vRead (w:V2):V2:=(w.1 && !(w.1 && w.2),w.2 && !(w.1 && w.2))
def vNot (w:V2):V2:=(w.2,w.1)
def vMux (s a b:V2):V2:=(s.2 && a.1 || s.1 && b.1 || a.1 && b.1,s.2 && a.2 || s.1 && b.2 || a.2 && b.2)
def vTri (e d:V2):V2:=(e.2 || e.1 && d.1,e.2 || e.1 && d.2)
def vbusF (s:Bool × Bool × Bool) (w:V2):Bool × Bool × Bool:=(s.1 || (w.1 && !w.2),s.2.1 || (w.2 && !w.1),s.2.2 || !(w.1 || w.2))
def vbusE (s:Bool × Bool × Bool):V2:=(!s.2.1 && !(s.2.2 || (s.1 && s.2.1)),!s.1 && !(s.2.2 || (s.1 && s.2.1)))
def vBus (l:List V2):V2:=vbusE (l.foldl vbusF (false,false,false))
def vEvalR (k:Nat) (r:List V2):V2:=match k with
 | 1=>vFill 0
 | 2=>vFill 1
 | 3=>r.getD 0 (false,false)
 | 4=>vNot (r.getD 0 (false,false))
 | 5=>r.foldl vAnd (vFill 1)
 | 6=>vNot (r.foldl vAnd (vFill 1))
 | 7=>r.foldl vOr (vFill 0)
 | 8=>vNot (r.foldl vOr (vFill 0))
 | 9=>r.foldl vXor (vFill 0)
 | 10=>vNot (r.foldl vXor (vFill 0))
 | 11=>vMux (r.getD 0 (false,false)) (r.getD 1 (false,false)) (r.getD 2 (false,false))
 | 12=>vTri (r.getD 0 (false,false)) (r.getD 1 (false,false))
 | _=>vFill 2
def vEval (k:Nat) (l:List V2):V2:=
 if l.length < faninLo k ∨ faninHi k < l.length then vFill 2
 else if k = 13 then vBus l
 else vEvalR k (l.map vRead)
def wAlg:Alg W:=⟨wEval,zW,wFill⟩
def vAlg:Alg V2:=⟨vEval,(false,false),vFill⟩
def lane (j:Nat) (w:W):V2:=(w.one.getLsbD j,w.zero.getLsbD j)
section
variable {j:Nat} (hj:j < 64)
include hj
theorem lane_fill (v:Nat):lane j (wFill v) = vFill v:=by
 have ha:(BitVec.allOnes 64).getLsbD j = true:=by rw [BitVec.getLsbD_allOnes];simpa using hj
 have hz:(0#64).getLsbD j = false:=BitVec.getLsbD_zero
 unfold wFill vFill
 split<;>simp only [lane,ha,hz, *]
theorem lane_read (w:W):lane j (wRead w) = vRead (lane j w):=by
 simp [wRead,vRead,lane,hj]
omit hj in
theorem lane_and (a b:W):lane j (wAnd a b) = vAnd (lane j a) (lane j b):=by simp [wAnd,vAnd,lane]
omit hj in
theorem lane_or (a b:W):lane j (wOr a b) = vOr (lane j a) (lane j b):=by simp [wOr,vOr,lane]
omit hj in
theorem lane_xor (a b:W):lane j (wXor a b) = vXor (lane j a) (lane j b):=by simp [wXor,vXor,lane]
omit hj in
theorem lane_not (a:W):lane j (wNot a) = vNot (lane j a):=rfl
omit hj in
theorem lane_mux (s a b:W):lane j (wMux s a b) = vMux (lane j s) (lane j a) (lane j b):=by simp [wMux,vMux,lane]
omit hj in
theorem lane_tri (a b:W):lane j (wTri a b) = vTri (lane j a) (lane j b):=by simp [wTri,vTri,lane]
omit hj in
theorem lane_fold {f:W → W → W} {g:V2 → V2 → V2} (h:∀ a b,lane j (f a b) = g (lane j a) (lane j b)):∀ (l:List W) (z:W),lane j (l.foldl f z) = (l.map (lane j)).foldl g (lane j z)
 | [],_=>rfl
 | a :: l,z=>by simp only [List.foldl_cons,List.map_cons,lane_fold h l,h]
def lane3 (j:Nat) (s:BitVec 64 × BitVec 64 × BitVec 64):Bool × Bool × Bool:=(s.1.getLsbD j,s.2.1.getLsbD j,s.2.2.getLsbD j)
theorem lane_busF (s:BitVec 64 × BitVec 64 × BitVec 64) (w:W):lane3 j (busF s w) = vbusF (lane3 j s) (lane j w):=by
 simp [lane3,busF,vbusF,lane,hj]
theorem lane_busE (s:BitVec 64 × BitVec 64 × BitVec 64):lane j (busE s) = vbusE (lane3 j s):=by
 simp [lane3,busE,vbusE,lane,hj]
theorem lane_bus (l:List W):lane j (wBus l) = vBus (l.map (lane j)):=by
 unfold wBus vBus busS
 rw [lane_busE hj]
 congr 1
 have key:∀ (l:List W) s,lane3 j (l.foldl busF s) = (l.map (lane j)).foldl vbusF (lane3 j s):=by
  intro l
  induction l with
  | nil=>intro s;rfl
  | cons a l ih=>intro s;simp only [List.foldl_cons,List.map_cons,ih,lane_busF hj]
 rw [key]
 congr 1
 simp [lane3]
omit hj in
theorem lane_getD (l:List W) (n:Nat):lane j (l.getD n zW) = (l.map (lane j)).getD n (false,false):=by
 simp only [List.getD_eq_getElem?_getD,List.getElem?_map]
 cases l[n]? with
 | none=>simp [lane,zW]
 | some x=>rfl
theorem lane_evalR (k:Nat) (l:List W):lane j (wEvalR k l) = vEvalR k (l.map (lane j)):=by
 unfold wEvalR vEvalR
 split<;>simp only [lane_fill hj,lane_not,lane_mux,lane_tri,lane_getD,wFold,lane_fold lane_and,lane_fold lane_or,lane_fold lane_xor]
theorem lane_eval (k:Nat) (l:List W):lane j (wEval k l) = vEval k (l.map (lane j)):=by
 unfold wEval vEval
 rw [List.length_map]
 split
 ·exact lane_fill hj 2
 split
 ·exact lane_bus hj l
 ·rw [lane_evalR hj,List.map_map,List.map_map]
  congr 1
  exact List.map_congr_left fun w _=>lane_read hj w
theorem laneHom:Hom wAlg vAlg (lane j):=⟨lane_eval hj,by simp [wAlg,vAlg,lane,zW],lane_fill hj⟩
end
/-! ### contradictions -/
def ctr (x y:W):BitVec 64:=(x.one &&& ~~~x.zero &&& y.zero &&& ~~~y.one) ||| (x.zero &&& ~~~x.one &&& y.one &&& ~~~y.zero)
def vctr (x y:V2):Bool:=(x.1 && !x.2 && y.2 && !y.1) || (x.2 && !x.1 && y.1 && !y.2)
def ctrs:List W → List W → BitVec 64 → BitVec 64
 | x :: xs,y :: ys,s=>ctrs xs ys (s ||| ctr x y)
 | _,_,s=>s
def vctrs:List V2 → List V2 → Bool → Bool
 | x :: xs,y :: ys,s=>vctrs xs ys (s || vctr x y)
 | _,_,s=>s
theorem lane_ctrs {j:Nat} (hj:j < 64):∀ (a b:List W) (s:BitVec 64),(ctrs a b s).getLsbD j = vctrs (a.map (lane j)) (b.map (lane j)) (s.getLsbD j)
 | [],b,s=>by cases b<;>rfl
 | x :: xs,[],s=>rfl
 | x :: xs,y :: ys,s=>by
  simp only [ctrs,vctrs,List.map_cons,lane_ctrs hj xs ys]
  congr 1
  simp [ctr,vctr,lane,hj]
/-! ### a circuit -/
structure Sim where
 nodes:List Nd
 ord:List Nat
 ins:List Nat
 sts:List Nat
 outs:List Nat
section
variable {α:Type} (A:Alg α) (S:Sim)
def Sim.nets (h:Hk α) (vi vs:List α):List α:=netsG A S.nodes h S.ord S.ins S.sts vi vs
def Sim.seen (h:Hk α) (nets:List α):List α:=seenG A S.nodes h S.outs S.sts nets
end
def Sim.det (S:Sim) (f:Flt) (p:Pat):Bool:=
 let vi:=p.ins.map vFill
 let vs:=p.sts.map vFill
 let good:=S.nets vAlg hk0 vi vs
 let h:=hkF f (faultG vAlg good f)
 vctrs (S.seen vAlg hk0 good) (S.seen vAlg h (S.nets vAlg h vi vs)) false
end Go.Pc
/- PcWf: the circuits of the statements are valid. Plain. -/
namespace Go.Pc
open Go.Ax
structure Cir.wf (c:Cir):Prop where
 pos:0 < c.nodes.length
 len:c.nodes.length ≤ 14
 names:c.names = (List.range c.nodes.length).map nameS
 kind:∀ x ∈ c.nodes,x.kind ≤ 14
 lo:∀ x ∈ c.nodes,faninLo x.kind ≤ x.ins.length
 hi:∀ x ∈ c.nodes,x.ins.length ≤ faninHi x.kind
 ins:∀ x ∈ c.nodes,∀ m ∈ x.ins,m < c.nodes.length
 bus:∀ x ∈ c.nodes,x.kind = 13 → ∀ m ∈ x.ins,kindAt c.nodes m = 12
 mem:∀ x ∈ c.nodes,x.mem = 0 ∧ x.bit = 0
 acyc:∀ (i:Nat) (x:Nd),c.nodes[i]? = some x → isComb x.kind = true → ∀ m ∈ x.ins,m < i
 outs:∀ o ∈ c.outs,o < c.nodes.length
 outl:c.outs.length ≤ 4
theorem ev_kind {k:Nat} (h:k < 6):faninLo (5 + k) = 2 ∧ faninHi (5 + k) = 16:=by
 have:k = 0 ∨ k = 1 ∨ k = 2 ∨ k = 3 ∨ k = 4 ∨ k = 5:=by omega
 rcases this with rfl|rfl|rfl|rfl|rfl|rfl<;>exact ⟨rfl,rfl⟩
structure GateOk (ks:List Nat) (x:Nd):Prop where
 k1:1 ≤ x.kind
 k13:x.kind ≤ 13
 lo:faninLo x.kind ≤ x.ins.length
 hi:x.ins.length ≤ faninHi x.kind
 ins:∀ m ∈ x.ins,m < ks.length
 bus:x.kind = 13 → ∀ m ∈ x.ins,ks[m]? = some 12
 mem:x.mem = 0 ∧ x.bit = 0
theorem tris_get {ks:List Nat} {i:Nat} (h:i < (trisOf ks).length):(trisOf ks).getD i 0 < ks.length ∧ ks[(trisOf ks).getD i 0]? = some 12:=by
 have:(trisOf ks).getD i 0 ∈ trisOf ks:=by
  rw [List.getD,List.getElem?_eq_getElem h];exact List.getElem_mem h
 exact trisTo_mem this
theorem gate_prop (bus:Bool) (g:GX) (ks:List Nat) (hp:0 < ks.length):GateOk ks (gateNd bus g ks):=by
 have a:=Nat.mod_lt g.i0 hp
 have b:=Nat.mod_lt g.i1 hp
 have d:=Nat.mod_lt g.i2 hp
 unfold gateNd
 dsimp only
 generalize (if bus = true then g.kind % 13 else g.kind % 9) = kind
 split
 ·rename_i h6
  obtain ⟨e1,e2⟩:=ev_kind h6
  split
  ·exact ⟨by dsimp only;omega,by dsimp only;omega,by simp [e1],by simp [e2],by simp [a,b,d],by dsimp only;omega,⟨rfl,rfl⟩⟩
  ·exact ⟨by dsimp only;omega,by dsimp only;omega,by simp [e1],by simp [e2],by simp [a,b],by dsimp only;omega,⟨rfl,rfl⟩⟩
 split
 ·exact ⟨by dsimp only;omega,by dsimp only;omega,by simp [faninLo],by simp [faninHi],by simp [a],by simp,⟨rfl,rfl⟩⟩
 split
 ·exact ⟨by dsimp only;omega,by dsimp only;omega,by simp [faninLo],by simp [faninHi],by simp [a,b,d],by simp,⟨rfl,rfl⟩⟩
 split
 ·exact ⟨by dsimp only;omega,by dsimp only;omega,by simp [faninLo],by simp [faninHi],by simp [a,b],by simp,⟨rfl,rfl⟩⟩
 split
 ·rename_i h
  have t0:=tris_get (Nat.mod_lt g.i0 h.2)
  split
  ·have t1:=tris_get (Nat.mod_lt (g.i0 % (trisOf ks).length + 1) h.2)
   refine ⟨by dsimp only;omega,by dsimp only;omega,by simp [faninLo],by simp [faninHi],?_,?_,⟨rfl,rfl⟩⟩
   ·intro m hm;simp only [List.mem_cons,List.not_mem_nil,or_false] at hm;rcases hm with rfl|rfl;exact t0.1;exact t1.1
   ·intro _ m hm;simp only [List.mem_cons,List.not_mem_nil,or_false] at hm;rcases hm with rfl|rfl;exact t0.2;exact t1.2
  ·refine ⟨by dsimp only;omega,by dsimp only;omega,by simp [faninLo],by simp [faninHi],?_,?_,⟨rfl,rfl⟩⟩
   ·intro m hm;simp only [List.mem_cons,List.not_mem_nil,or_false] at hm;subst hm;exact t0.1
   ·intro _ m hm;simp only [List.mem_cons,List.not_mem_nil,or_false] at hm;subst hm;exact t0.2
 split
 ·have:g.i0 % 2 = 0 ∨ g.i0 % 2 = 1:=by omega
  rcases this with h|h<;>rw [h]<;>exact ⟨by dsimp only;omega,by dsimp only;omega,by simp [faninLo],by simp [faninHi],by simp,by simp,⟨rfl,rfl⟩⟩
 ·exact ⟨by dsimp only;omega,by dsimp only;omega,by simp [faninLo],by simp [faninHi],by simp [a],by simp,⟨rfl,rfl⟩⟩
theorem gN_get (bus:Bool):∀ (l:List GX) (ks:List Nat) (i:Nat) (x:Nd),(gN bus ks l)[i]? = some x → ∃ g,x = gateNd bus g (ks ++ ((gN bus ks l).take i).map Nd.kind)
 | [],ks,i,x,h=>by simp [gN] at h
 | g :: l,ks,0,x,h=>by simp only [gN,List.getElem?_cons_zero,Option.some.injEq] at h;exact ⟨g,by rw [← h];simp⟩
 | g :: l,ks,i + 1,x,h=>by
  simp only [gN,List.getElem?_cons_succ] at h
  obtain ⟨g',hg⟩:=gN_get bus l _ i x h
  exact ⟨g',by rw [hg];simp [gN]⟩
theorem CX.dn_len (x:CX):x.dn.length = x.d:=by
 have:x.d < 3:=Nat.mod_lt _ (by omega)
 unfold CX.dn;rw [List.length_map,List.length_take];simp;omega
theorem CX.nodes_len (x:CX):x.nodes.length = x.n:=by
 unfold CX.nodes CX.n
 rw [List.length_append,List.length_append,List.length_replicate,x.dn_len,gN_length]
theorem CX.dn_kind (x:CX):x.dn.map Nd.kind = List.replicate x.d 14:=by
 have:x.d = 0 ∨ x.d = 1 ∨ x.d = 2:=by have:x.d < 3:=Nat.mod_lt _ (by omega);omega
 unfold CX.dn
 rcases this with h|h|h<;>rw [h]<;>rfl
theorem CX.base_len (x:CX):x.base.length = x.k + x.d:=by unfold CX.base;simp
theorem CX.kinds (x:CX):x.nodes.map Nd.kind = x.base ++ (gN x.bus x.base x.gs).map Nd.kind:=by
 unfold CX.nodes CX.base
 rw [List.map_append,List.map_append,List.map_replicate,x.dn_kind]
 rfl
theorem CX.node_cases (x:CX) {i:Nat} {nd:Nd} (h:x.nodes[i]? = some nd):nd = inNd ∨ (∃ v,nd = dffNd (v % x.n)) ∨ GateOk ((x.nodes.map Nd.kind).take i) nd:=by
 unfold CX.nodes at h
 by_cases h1:i < x.k
 ·rw [List.append_assoc,List.getElem?_append_left (by simpa using h1),List.getElem?_replicate,if_pos h1] at h
  exact .inl (Option.some.inj h).symm
 rw [List.append_assoc,List.getElem?_append_right (by simpa using h1),List.length_replicate] at h
 by_cases h2:i - x.k < x.d
 ·rw [List.getElem?_append_left (by rw [x.dn_len];exact h2)] at h
  unfold CX.dn at h
  rw [List.getElem?_map] at h
  cases hv:([x.d0,x.d1].take x.d)[i - x.k]? with
  | none=>rw [hv] at h;cases h
  | some v=>rw [hv] at h;exact .inr (.inl ⟨v,(Option.some.inj h).symm⟩)
 ·rw [List.getElem?_append_right (by rw [x.dn_len];omega),x.dn_len] at h
  obtain ⟨g,hg⟩:=gN_get _ _ _ _ _ h
  refine .inr (.inr ?_)
  have e:(x.nodes.map Nd.kind).take i = x.base ++ ((gN x.bus x.base x.gs).take (i - x.k - x.d)).map Nd.kind:=by
   rw [x.kinds,List.take_append,List.take_of_length_le (by rw [x.base_len];omega),x.base_len,List.map_take]
   congr 2;omega
  rw [e,hg]
  exact gate_prop _ _ _ (by
   rw [List.length_append,x.base_len];have:0 < x.k:=by unfold CX.k;omega
   omega)
theorem CX.wf (x:CX):x.cir.wf:=by
 have hn:=x.nodes_len
 have hk:x.k ≤ 4 ∧ 0 < x.k:=by unfold CX.k;omega
 have hd:x.d < 3:=Nat.mod_lt _ (by omega)
 have hg:x.gs.length ≤ 8:=by unfold CX.gs;rw [List.length_take];omega
 have hnn:x.n = x.k + x.d + x.gs.length:=rfl
 have key:∀ nd ∈ x.nodes,∃ i,x.nodes[i]? = some nd ∧ i < x.n:=by
  intro nd h
  obtain ⟨i,hi⟩:=List.mem_iff_getElem?.1 h
  exact ⟨i,hi,by rw [← hn];exact (List.getElem?_eq_some_iff.1 hi).1⟩
 have hl:∀ i,i < x.n → ((x.nodes.map Nd.kind).take i).length = i:=fun i hi=>by rw [List.length_take,List.length_map,hn];omega
 have hsrc:∀ nd ∈ x.nodes,nd = inNd ∨ (∃ v,nd = dffNd (v % x.n)) ∨ ∃ i,i < x.n ∧ GateOk ((x.nodes.map Nd.kind).take i) nd:=by
  intro nd h
  obtain ⟨i,hi,hlt⟩:=key nd h
  rcases x.node_cases hi with h|h|h
  ·exact .inl h
  ·exact .inr (.inl h)
  ·exact .inr (.inr ⟨i,hlt,h⟩)
 refine ⟨by show 0 < x.nodes.length;omega,by show x.nodes.length ≤ 14;omega,by show x.names = _;rw [show x.cir.nodes = x.nodes from rfl,hn];rfl,?_,?_,?_,?_,?_,?_,?_,?_,?_⟩
 ·intro nd h
  rcases hsrc nd h with rfl|⟨v,rfl⟩|⟨i,hi,h⟩
  ·decide
  ·exact Nat.le_refl 14
  ·have:=h.k13;omega
 ·intro nd h
  rcases hsrc nd h with rfl|⟨v,rfl⟩|⟨i,hi,h⟩
  ·decide
  ·exact Nat.le_refl 1
  ·exact h.lo
 ·intro nd h
  rcases hsrc nd h with rfl|⟨v,rfl⟩|⟨i,hi,h⟩
  ·decide
  ·exact Nat.le_refl 1
  ·exact h.hi
 ·intro nd h m hm
  show m < x.nodes.length
  rw [hn]
  rcases hsrc nd h with rfl|⟨v,rfl⟩|⟨i,hi,h⟩
  ·simp [inNd] at hm
  ·simp only [dffNd,List.mem_cons,List.not_mem_nil,or_false] at hm;subst hm;exact Nat.mod_lt _ (by omega)
  ·have:=h.ins m hm;rw [hl i hi] at this;omega
 ·intro nd h h13 m hm
  rcases hsrc nd h with rfl|⟨v,rfl⟩|⟨i,hi,h⟩
  ·simp [inNd] at hm
  ·simp [dffNd] at h13
  ·have h1:=h.bus h13 m hm
   have h2:=h.ins m hm
   rw [hl i hi] at h2
   rw [List.getElem?_take,if_pos h2,List.getElem?_map] at h1
   show kindAt x.nodes m = 12
   unfold kindAt
   rw [h1];rfl
 ·intro nd h
  rcases hsrc nd h with rfl|⟨v,rfl⟩|⟨i,hi,h⟩
  ·exact ⟨rfl,rfl⟩
  ·exact ⟨rfl,rfl⟩
  ·exact h.mem
 ·intro i nd h hc m hm
  have hlt:i < x.n:=by rw [← hn];exact (List.getElem?_eq_some_iff.1 h).1
  rcases x.node_cases h with rfl|⟨v,rfl⟩|h
  ·simp [inNd] at hm
  ·simp [dffNd,isComb] at hc
  ·have:=h.ins m hm;rw [hl i hlt] at this;exact this
 ·intro o ho
  show o < x.nodes.length
  rw [hn]
  have ho:o ∈ x.outN:=ho
  unfold CX.outN at ho
  simp only [List.mem_append,List.mem_map,List.mem_cons,List.not_mem_nil,or_false] at ho
  rcases ho with ⟨a,_,rfl⟩|rfl
  ·exact Nat.mod_lt _ (by omega)
  ·omega
 ·show x.outN.length ≤ 4
  unfold CX.outN;simp;omega
end Go.Pc
/- PcFan: which pins read a net. Plain. -/
namespace Go.Pc
open Go.Ax
def lineR (l:Nat × Nat):List AV:=[.int .i64 l.1,.int .i64 l.2]
def cnt (L:List (Nat × Nat)) (a:Nat):Nat:=(L.map (·.1)).count a
structure FoOk (nodes:List Nd) (i k:Nat) (fo:List (List (Nat × Nat))):Prop where
 len:fo.length = nodes.length
 num:∀ (j:Nat) (L:List (Nat × Nat)),fo[j]? = some L → ∀ a,cnt L a = if a < i then (insAt nodes a).count j else if a = i then ((insAt nodes i).take k).count j else 0
theorem FoOk.zero (nodes:List Nd):FoOk nodes 0 0 (List.replicate nodes.length []):=by
 refine ⟨by simp,fun j L h a=>?_⟩
 rw [List.getElem?_replicate] at h
 split at h
 ·cases h;simp [Pc.cnt]
 ·cases h
theorem FoOk.step {nodes:List Nd} {i k m:Nat} {fo:List (List (Nat × Nat))} {L:List (Nat × Nat)} (h:FoOk nodes i k fo) (hm:(insAt nodes i)[k]? = some m) (hL:fo[m]? = some L):FoOk nodes i (k + 1) (fo.set m (L ++ [(i,k)])):=by
 refine ⟨by rw [List.length_set,h.len],fun j L' hj a=>?_⟩
 have ht:=take_snoc hm
 rw [List.getElem?_set] at hj
 have hml:m < fo.length:=(List.getElem?_eq_some_iff.1 hL).1
 by_cases hmj:m = j
 ·subst hmj
  simp only [if_true,hml,Option.some.injEq] at hj
  subst hj
  have:=h.num m L hL a
  have e:Pc.cnt (L ++ [(i,k)]) a = Pc.cnt L a + if i = a then 1 else 0:=by
   unfold Pc.cnt
   rw [List.map_append,List.count_append]
   by_cases hia:i = a
   ·subst hia;simp
   ·simp [hia,List.count_cons]
  rw [e,this,ht]
  by_cases h1:a < i
  ·simp [h1];omega
  ·by_cases h2:a = i
   ·subst h2;simp
   ·simp [h1,h2];omega
 ·rw [if_neg hmj] at hj
  have:=h.num j L' hj a
  rw [this,ht]
  by_cases h1:a < i
  ·simp [h1]
  ·by_cases h2:a = i
   ·subst h2
    simp [List.count_append,List.count_cons,hmj]
   ·simp [h1,h2]
theorem FoOk.next {nodes:List Nd} {i k:Nat} {fo:List (List (Nat × Nat))} (h:FoOk nodes i k fo) (hk:k = (insAt nodes i).length):FoOk nodes (i + 1) 0 fo:=by
 refine ⟨h.len,fun j L hj a=>?_⟩
 rw [h.num j L hj a]
 subst hk
 rw [List.take_length]
 by_cases h1:a < i
 ·simp [h1,show a < i + 1 by omega]
 ·by_cases h2:a = i
  ·subst h2;simp
  ·simp [h1,h2,show ¬ a < i + 1 by omega]
theorem insAt_get {nodes:List Nd} {i:Nat} {x:Nd} (h:nodes[i]? = some x):insAt nodes i = x.ins:=by simp [insAt,h]
theorem len_cnt (n:Nat):∀ (L:List (Nat × Nat)),(∀ l ∈ L,l.1 < n) → L.length = ((List.range n).map fun a=>cnt L a).sum
 | [],_=>by
  have:∀ l:List Nat,(l.map fun a=>cnt [] a).sum = 0:=by intro l;induction l with|nil=>rfl|cons a l ih=>rw [List.map_cons,List.sum_cons,ih];rfl
  rw [this];rfl
 | x :: L,h=>by
  have ih:=len_cnt n L (fun l hl=>h l (by simp [hl]))
  have hx:=h x (by simp)
  have e:∀ a,cnt (x :: L) a = cnt L a + if x.1 = a then 1 else 0:=fun a=>by
   unfold cnt;rw [List.map_cons,List.count_cons];simp [beq_iff_eq]
  have s:∀ (l:List Nat),l.Nodup → (l.map fun a=>cnt (x :: L) a).sum = (l.map fun a=>cnt L a).sum + if x.1 ∈ l then 1 else 0:=by
   intro l
   induction l with
   | nil=>intro _;rfl
   | cons a l ih2=>
    intro hn
    rw [List.nodup_cons] at hn
    simp only [List.map_cons,List.sum_cons,e a,ih2 hn.2,List.mem_cons]
    by_cases h1:x.1 = a
    ·subst h1;simp [hn.1];omega
    ·simp [h1];omega
  rw [s _ List.nodup_range,if_pos (by simpa using hx),List.length_cons,ih]
theorem FoOk.node {nodes:List Nd} {i k j:Nat} {fo:List (List (Nat × Nat))} {L:List (Nat × Nat)} (h:FoOk nodes i k fo) (hL:fo[j]? = some L) (hi:i ≤ nodes.length):∀ l ∈ L,l.1 < nodes.length:=by
 intro l hl
 have hc:=h.num j L hL l.1
 have hp:0 < cnt L l.1:=by unfold cnt;exact List.count_pos_iff.2 (List.mem_map.2 ⟨l,hl,rfl⟩)
 by_cases h1:l.1 < i
 ·omega
 ·rw [if_neg h1] at hc
  by_cases h2:l.1 = i
  ·rw [if_pos h2] at hc
   cases hx:nodes[i]? with
   | none=>simp [insAt,hx] at hc;omega
   | some x=>have:=(List.getElem?_eq_some_iff.1 hx).1;omega
  ·rw [if_neg h2] at hc;omega
theorem FoOk.total {nodes:List Nd} {i k j:Nat} {fo:List (List (Nat × Nat))} {L:List (Nat × Nat)} (h:FoOk nodes i k fo) (hL:fo[j]? = some L) (hn:nodes.length ≤ 14) (hx:∀ y ∈ nodes,y.ins.length ≤ 16) (hi:i ≤ nodes.length:=by omega):L.length ≤ 224:=by
 have hb:∀ a,cnt L a ≤ 16:=by
  intro a
  have hins:(insAt nodes a).length ≤ 16:=by
   unfold insAt
   cases hx':nodes[a]? with
   | none=>simp
   | some x=>exact hx x (List.mem_of_getElem? hx')
  rw [h.num j L hL a]
  split
  ·exact Nat.le_trans List.count_le_length hins
  split
  ·rename_i e;subst e
   refine Nat.le_trans List.count_le_length ?_
   rw [List.length_take];omega
  ·omega
 rw [len_cnt nodes.length L (h.node hL hi)]
 have s:∀ l:List Nat,(l.map fun a=>cnt L a).sum ≤ 16 * l.length:=by
  intro l
  induction l with
  | nil=>simp
  | cons a l ih=>have:=hb a;simp only [List.map_cons,List.sum_cons,List.length_cons];omega
 have:=s (List.range nodes.length)
 rw [List.length_range] at this
 omega
theorem Cir.wf.insl {c:Cir} (h:c.wf) {x:Nd} (hx:x ∈ c.nodes):x.ins.length ≤ 16:=by
 have k14:=h.kind x hx
 have hhi:=h.hi x hx
 have:faninHi x.kind ≤ 16:=by
  have hk:x.kind = 0 ∨ x.kind = 1 ∨ x.kind = 2 ∨ x.kind = 3 ∨ x.kind = 4 ∨ x.kind = 5 ∨ x.kind = 6 ∨ x.kind = 7 ∨ x.kind = 8 ∨ x.kind = 9 ∨ x.kind = 10 ∨ x.kind = 11 ∨ x.kind = 12 ∨ x.kind = 13 ∨ x.kind = 14:=by omega
  rcases hk with e|e|e|e|e|e|e|e|e|e|e|e|e|e|e<;>rw [e]<;>decide
 omega
end Go.Pc
/- PcKahn: the order in which nodes become ready. Plain. -/
namespace Go.Pc
open Go.Ax
def pend (nodes:List Nd) (ready:List Nat) (done a:Nat):Nat:=((insAt nodes a).filter fun m=>decide (m ∉ ready.take done)).length
structure Kahn (nodes:List Nd) (left ready:List Nat) (done:Nat) (L:List (Nat × Nat)):Prop where
 ll:left.length = nodes.length
 rn:∀ r ∈ ready,r < nodes.length
 nd:ready.Nodup
 dle:done ≤ ready.length
 eq:∀ a,a < nodes.length → isComb (kindAt nodes a) = true → left.getD a 0 + cnt L a = pend nodes ready done a
 nc:∀ a,a < nodes.length → isComb (kindAt nodes a) = false → left.getD a 0 = 0
 zero:∀ a,a < nodes.length → (a ∈ ready ↔ left.getD a 0 = 0)
def need (nodes:List Nd) (a:Nat):Nat:=if isComb (kindAt nodes a) then (insAt nodes a).length else 0
def leftTo (nodes:List Nd) (i:Nat):List Nat:=(List.range nodes.length).map fun j=>if j < i then need nodes j else 0
def readyTo (nodes:List Nd) (i:Nat):List Nat:=(List.range i).filter fun j=>decide (need nodes j = 0)
theorem readyTo_succ (nodes:List Nd) (i:Nat):readyTo nodes (i + 1) = if need nodes i = 0 then readyTo nodes i ++ [i] else readyTo nodes i:=by
 unfold readyTo
 rw [List.range_succ,List.filter_append]
 by_cases h:need nodes i = 0<;>simp [h]
theorem readyTo_le (nodes:List Nd) (i:Nat):(readyTo nodes i).length ≤ i:=Nat.le_trans (List.length_filter_le _ _) (by simp)
theorem leftTo_zero (nodes:List Nd):leftTo nodes 0 = List.replicate nodes.length 0:=by
 apply List.ext_getElem?
 intro j
 simp only [leftTo,List.getElem?_map,List.getElem?_replicate,Nat.not_lt_zero,if_false]
 by_cases h:j < nodes.length
 ·rw [List.getElem?_range h];simp [h]
 ·rw [List.getElem?_eq_none (by simpa using h)];simp [h]
theorem leftTo_get {nodes:List Nd} {i j:Nat} (h:j < nodes.length):(leftTo nodes i)[j]? = some (if j < i then need nodes j else 0):=by
 simp [leftTo,List.getElem?_range h]
theorem leftTo_succ {nodes:List Nd} {i:Nat} (h:i < nodes.length):(leftTo nodes i).set i (need nodes i) = leftTo nodes (i + 1):=by
 apply List.ext_getElem?
 intro j
 rw [List.getElem?_set]
 by_cases hj:j < nodes.length
 ·rw [leftTo_get hj,leftTo_get hj]
  by_cases hij:i = j
  ·subst hij;simp [leftTo,h]
  ·by_cases h2:j < i
   ·simp [hij,h2,show j < i + 1 by omega]
   ·simp [hij,h2,show ¬ j < i + 1 by omega]
 ·have e:∀ i,(leftTo nodes i)[j]? = none:=fun i=>List.getElem?_eq_none (by simp [leftTo];omega)
  rw [e,e]
  have:i ≠ j:=by omega
  simp [this]
theorem leftTo_same {nodes:List Nd} {i:Nat} (h:i < nodes.length) (h0:need nodes i = 0):leftTo nodes i = leftTo nodes (i + 1):=by
 rw [← leftTo_succ h]
 apply List.ext_getElem?
 intro j
 rw [List.getElem?_set]
 by_cases hij:i = j
 ·subst hij;rw [leftTo_get h];simp [leftTo,h,h0]
 ·simp [hij]
theorem Kahn.start (nodes:List Nd):Kahn nodes (leftTo nodes nodes.length) (readyTo nodes nodes.length) 0 []:=by
 have hg:∀ a,a < nodes.length → (leftTo nodes nodes.length).getD a 0 = need nodes a:=by
  intro a ha
  rw [List.getD,leftTo_get ha];simp [ha]
 refine ⟨by simp [leftTo],?_,?_,Nat.zero_le _,?_,?_,?_⟩
 ·intro r hr
  unfold readyTo at hr
  rw [List.mem_filter] at hr
  simpa using hr.1
 ·exact List.nodup_range.filter _
 ·intro a ha hc
  rw [hg a ha]
  have e:∀ l:List Nat,(l.filter fun m=>decide (m ∉ ([]:List Nat))) = l:=fun l=>List.filter_eq_self.2 (fun m _=>by simp)
  simp only [need,hc,if_true,pend,cnt,List.map_nil,List.count_nil,List.take_zero,Nat.add_zero]
  exact (congrArg List.length (e _)).symm
 ·intro a ha hc
  rw [hg a ha];simp [need,hc]
 ·intro a ha
  rw [hg a ha]
  unfold readyTo
  rw [List.mem_filter]
  simp [ha]
section
variable {nodes:List Nd} {left ready:List Nat} {done:Nat} {L:List (Nat × Nat)}
theorem cnt_snoc (L:List (Nat × Nat)) (a p b:Nat):cnt (L ++ [(a,p)]) b = cnt L b + if a = b then 1 else 0:=by
 unfold cnt
 rw [List.map_append,List.count_append]
 by_cases hia:a = b
 ·subst hia;simp
 ·simp [hia,List.count_cons]
theorem Kahn.skip (h:Kahn nodes left ready done L) {a p:Nat} (hc:isComb (kindAt nodes a) = false):Kahn nodes left ready done (L ++ [(a,p)]):=by
 refine ⟨h.ll,h.rn,h.nd,h.dle,?_,h.nc,h.zero⟩
 intro b hb hcb
 have:a ≠ b:=fun e=>by subst e;rw [hc] at hcb;cases hcb
 rw [cnt_snoc,if_neg this,Nat.add_zero]
 exact h.eq b hb hcb
theorem pend_app {ready:List Nat} {done x a:Nat} (h:done ≤ ready.length):pend nodes (ready ++ [x]) done a = pend nodes ready done a:=by
 unfold pend;rw [List.take_append_of_le_length h]
theorem Kahn.pos (h:Kahn nodes left ready done L) {a p:Nat} (ha:a < nodes.length) (hc:isComb (kindAt nodes a) = true) (hcnt:cnt (L ++ [(a,p)]) a ≤ pend nodes ready done a):0 < left.getD a 0:=by
 have:=h.eq a ha hc
 rw [cnt_snoc,if_pos rfl] at hcnt
 omega
theorem Kahn.dec (h:Kahn nodes left ready done L) {a p:Nat} (ha:a < nodes.length) (hc:isComb (kindAt nodes a) = true) (hcnt:cnt (L ++ [(a,p)]) a ≤ pend nodes ready done a) :
 Kahn nodes (left.set a (left.getD a 0 - 1)) (if left.getD a 0 - 1 = 0 then ready ++ [a] else ready) done (L ++ [(a,p)]):=by
 have hpos:=h.pos ha hc hcnt
 have hal:a < left.length:=by rw [h.ll];exact ha
 have hget:∀ b,(left.set a (left.getD a 0 - 1)).getD b 0 = if a = b then left.getD a 0 - 1 else left.getD b 0:=by
  intro b
  simp only [List.getD_eq_getElem?_getD,List.getElem?_set]
  by_cases hab:a = b
  ·subst hab;simp [hal]
  ·simp [hab]
 have hna:a ∉ ready:=fun hm=>by have:=(h.zero a ha).1 hm;omega
 have hpe:∀ b,pend nodes (if left.getD a 0 - 1 = 0 then ready ++ [a] else ready) done b = pend nodes ready done b:=by
  intro b;split
  ·exact pend_app h.dle
  ·rfl
 refine ⟨by rw [List.length_set,h.ll],?_,?_,?_,?_,?_,?_⟩
 ·intro r hr
  split at hr
  ·simp only [List.mem_append,List.mem_singleton] at hr
   rcases hr with hr|rfl
   ·exact h.rn r hr
   ·exact ha
  ·exact h.rn r hr
 ·split
  ·rw [List.nodup_append]
   refine ⟨h.nd,by simp,?_⟩
   intro x hx y hy
   simp only [List.mem_singleton] at hy
   subst hy
   exact fun e=>hna (e ▸ hx)
  ·exact h.nd
 ·split
  ·have:=h.dle;simp;omega
  ·exact h.dle
 ·intro b hb hcb
  rw [hget,hpe,cnt_snoc]
  have:=h.eq b hb hcb
  by_cases hab:a = b
  ·subst hab;rw [if_pos rfl,if_pos rfl];omega
  ·rw [if_neg hab,if_neg hab,Nat.add_zero];exact this
 ·intro b hb hcb
  have:a ≠ b:=fun e=>by subst e;rw [hc] at hcb;cases hcb
  rw [hget,if_neg this]
  exact h.nc b hb hcb
 ·intro b hb
  rw [hget]
  by_cases hab:a = b
  ·subst hab
   rw [if_pos rfl]
   split
   ·rename_i e;exact ⟨fun _=>e,fun _=>by simp⟩
   ·rename_i e;exact ⟨fun hm=>absurd hm hna,fun e'=>absurd e' e⟩
  ·rw [if_neg hab]
   rw [← h.zero b hb]
   split
   ·simp [Ne.symm hab]
   ·rfl
theorem count_filter_split (l:List Nat) (S:List Nat) (x:Nat) (hx:x ∉ S):(l.filter fun m=>decide (m ∉ S)).length = (l.filter fun m=>decide (m ∉ S ++ [x])).length + l.count x:=by
 induction l with
 | nil=>rfl
 | cons a l ih=>
  simp only [List.filter_cons,List.count_cons]
  by_cases hax:a = x
  ·subst hax
   simp [hx] at ih ⊢
   omega
  ·by_cases haS:a ∈ S
   ·simp [haS,hax] at ih ⊢;omega
   ·simp [haS,hax] at ih ⊢;omega
theorem Kahn.next (h:Kahn nodes left ready done L) {x:Nat} (hx:ready[done]? = some x) (hL:∀ a,a < nodes.length → cnt L a = (insAt nodes a).count x):Kahn nodes left ready (done + 1) []:=by
 have hdl:=(List.getElem?_eq_some_iff.1 hx).1
 have ht:=take_snoc hx
 have hnx:x ∉ ready.take done:=by
  intro hm
  obtain ⟨i,hi⟩:=List.mem_iff_getElem?.1 hm
  rw [List.getElem?_take] at hi
  split at hi
  case isFalse=>cases hi
  have:=(List.getElem?_inj (by omega) h.nd).1 (hi.trans hx.symm)
  omega
 refine ⟨h.ll,h.rn,h.nd,by omega,?_,h.nc,h.zero⟩
 intro a ha hc
 have:=h.eq a ha hc
 rw [hL a ha] at this
 unfold pend at this ⊢
 rw [ht]
 rw [count_filter_split _ _ x hnx] at this
 simp only [cnt,List.map_nil,List.count_nil]
 omega
theorem pend_ge {ready:List Nat} {done x a:Nat} (nd:ready.Nodup) (hx:ready[done]? = some x):(insAt nodes a).count x ≤ pend nodes ready done a:=by
 have hdl:=(List.getElem?_eq_some_iff.1 hx).1
 have hnx:x ∉ ready.take done:=by
  intro hm
  obtain ⟨i,hi⟩:=List.mem_iff_getElem?.1 hm
  rw [List.getElem?_take] at hi
  split at hi
  case isFalse=>cases hi
  have:=(List.getElem?_inj (by omega) nd).1 (hi.trans hx.symm)
  omega
 unfold pend
 rw [count_filter_split _ _ x hnx]
 omega
theorem Kahn.all (h:Kahn nodes left ready ready.length []) (hac:∀ (i:Nat) (x:Nd),nodes[i]? = some x → isComb x.kind = true → ∀ m ∈ x.ins,m < i):nodes.length ≤ ready.length:=by
 have key:∀ n a,a ≤ n → a < nodes.length → a ∈ ready:=by
  intro n
  induction n with
  | zero=>
   intro a han ha
   obtain rfl:a = 0:=by omega
   rw [h.zero 0 ha]
   cases hc:isComb (kindAt nodes 0) with
   | false=>exact h.nc 0 ha hc
   | true=>
    obtain ⟨x,hx⟩:∃ x,nodes[0]? = some x:=⟨_,List.getElem?_eq_getElem ha⟩
    have he:=h.eq 0 ha hc
    have hk:kindAt nodes 0 = x.kind:=by simp [kindAt,hx]
    rw [hk] at hc
    have hi:insAt nodes 0 = []:=by
     simp only [insAt,hx,Option.map_some,Option.getD_some]
     cases hins:x.ins with
     | nil=>rfl
     | cons m r=>have:=hac 0 x hx hc m (by simp [hins]);omega
    have:pend nodes ready ready.length 0 = 0:=by simp [pend,hi]
    omega
  | succ n ih=>
   intro a han ha
   rw [h.zero a ha]
   cases hc:isComb (kindAt nodes a) with
   | false=>exact h.nc a ha hc
   | true=>
    obtain ⟨x,hx⟩:∃ x,nodes[a]? = some x:=⟨_,List.getElem?_eq_getElem ha⟩
    have he:=h.eq a ha hc
    have hk:kindAt nodes a = x.kind:=by simp [kindAt,hx]
    rw [hk] at hc
    have hi:insAt nodes a = x.ins:=insAt_get hx
    have:pend nodes ready ready.length a = 0:=by
     unfold pend
     rw [hi,List.take_length,List.length_eq_zero_iff,List.filter_eq_nil_iff]
     intro m hm
     have h1:=hac a x hx hc m hm
     have h2:=ih m (by omega) (by omega)
     simp [h2]
    omega
 have:=len_sub (l:=List.range nodes.length) (T:=ready) List.nodup_range (fun a ha=>key a a (Nat.le_refl _) (by simpa using ha))
 simpa using this
theorem Kahn.bound (h:Kahn nodes left ready done L):ready.length ≤ nodes.length:=by
 have:=len_sub h.nd (T:=List.range nodes.length) (fun a ha=>by simpa using h.rn a ha)
 simpa using this
end
end Go.Pc
/- PcPerm: exchanging neighbours. Plain. -/
namespace Go.Pc
theorem swap_perm {l:List Nat} {j x y:Nat} (hj:l[j + 1]? = some x) (hi:l[j]? = some y):((l.set (j + 1) y).set j x).Perm l:=by
 induction l generalizing j with
 | nil=>simp at hj
 | cons a l ih=>
  cases j with
  | zero=>
   cases l with
   | nil=>simp at hj
   | cons b l=>
    simp only [List.getElem?_cons_succ,List.getElem?_cons_zero,Option.some.injEq] at hj hi
    subst hj;subst hi
    exact List.Perm.swap ..
  | succ j=>
   simp only [List.getElem?_cons_succ] at hj hi
   simp only [List.set_cons_succ]
   exact (ih hj hi).cons a
def cmpI (a b:Nat):Int:=if a < b then -1 else if b < a then 1 else 0
end Go.Pc
/- PcReach: which nets a net depends on; faults that are valid. Plain. -/
namespace Go.Pc
open Go.Ax
inductive DepOn (nodes:List Nd):Nat → Nat → Prop
 | refl (a:Nat):DepOn nodes a a
 | step {a m b:Nat} (hk:kindAt nodes a ≠ 14) (hm:m ∈ insAt nodes a) (h:DepOn nodes m b):DepOn nodes a b
theorem DepOn.cases {nodes:List Nd} {a b:Nat} (h:DepOn nodes a b):a = b ∨ (kindAt nodes a ≠ 14 ∧ ∃ m,m ∈ insAt nodes a ∧ DepOn nodes m b):=by
 cases h with
 | refl=>exact .inl rfl
 | step hk hm h=>exact .inr ⟨hk,_,hm,h⟩
theorem DepOn.not_dff {nodes:List Nd} {a b:Nat} (hab:a ≠ b) (hk:kindAt nodes a = 14):¬ DepOn nodes a b:=fun h=>by
 rcases h.cases with e|⟨h1,_⟩
 ·exact hab e
 ·exact h1 hk
theorem DepOn.snoc {nodes:List Nd} {a b m:Nat} (h:DepOn nodes a b) (hk:kindAt nodes b ≠ 14) (hm:m ∈ insAt nodes b):DepOn nodes a m:=by
 induction h with
 | refl a=>exact .step hk hm (.refl _)
 | step hk' hm' _ ih=>exact .step hk' hm' (ih hk hm)
theorem Cir.wf.comb_of {c:Cir} (h:c.wf) {x:Nd} (hx:x ∈ c.nodes) (hp:0 < x.ins.length) (h14:x.kind ≠ 14):isComb x.kind = true:=by
 have h1:=h.kind x hx
 have h2:=h.hi x hx
 have h3:x.kind ≠ 0:=by
  intro e;rw [e] at h2
  have:faninHi 0 = 0:=rfl
  omega
 simp [isComb];omega
structure FltOk (nodes:List Nd) (f:Flt):Prop where
 model:f.model = 0 ∨ f.model = 2 ∨ f.model = 3
 node:f.node < nodes.length
 pin:-1 ≤ f.pin ∧ f.pin < (insAt nodes f.node).length
 value:f.value ≤ 1
 other:f.other < nodes.length
 stuck:f.model = 0 → f.other = 0
 bridge:f.model ≠ 0 → f.pin = -1 ∧ f.node ≠ f.other ∧ (f.model = 2 → f.node ≤ f.other) ∧ (f.model = 3 → f.value = 0) ∧ kindAt nodes f.node ≠ 12 ∧ kindAt nodes f.other ≠ 12 ∧ ¬ DepOn nodes f.node f.other ∧ ¬ DepOn nodes f.other f.node
end Go.Pc
/- PcRun: the simulation, step by step. Plain. -/
namespace Go.Pc
open Go.Ax
section
variable {α:Type} {A:Alg α} {nodes:List Nd} {h:Hk α}
theorem rds_get {n:Nat} {nets:List α}:∀ {l:List Nat} {p i m:Nat},l[i]? = some m → (rdsFrom A h n nets p l)[i]? = some (h.pin n (p + i) (nets.getD m A.z))
 | [],p,i,m,hm=>by simp at hm
 | a :: l,p,0,m,hm=>by simp at hm;subst hm;rfl
 | a :: l,p,i + 1,m,hm=>by
  simp only [List.getElem?_cons_succ] at hm
  simp only [rdsFrom,List.getElem?_cons_succ,rds_get (p:=p + 1) hm]
  rw [show p + 1 + i = p + (i + 1) by omega]
theorem rds_len {n:Nat} {nets:List α}:∀ (l:List Nat) (p:Nat),(rdsFrom A h n nets p l).length = l.length
 | [],_=>rfl
 | a :: l,p=>by simp [rdsFrom,rds_len l]
theorem readsG_len {nets:List α} {n:Nat}:(readsG A nodes h nets n).length = (insAt nodes n).length:=rds_len _ _
theorem reads_succ {nets:List α} {n i m:Nat} {v:α} (hm:(insAt nodes n)[i]? = some m) (hv:nets[m]? = some v):(readsG A nodes h nets n).take (i + 1) = (readsG A nodes h nets n).take i ++ [h.pin n i v]:=by
 have:=rds_get (A:=A) (h:=h) (n:=n) (nets:=nets) (p:=0) hm
 rw [Nat.zero_add,List.getD,hv] at this
 exact take_snoc this
theorem loadG_snoc:∀ {is:List Nat} {vs:List α} {nets:List α} {a:Nat} {v:α},is.length = vs.length → loadG nets (is ++ [a]) (vs ++ [v]) = (loadG nets is vs).set a v
 | [],[],nets,a,v,_=>rfl
 | [],_ :: _,_,_,_,h=>by simp at h
 | _ :: _,[],_,_,_,h=>by simp at h
 | i :: is,w :: vs,nets,a,v,h=>by simp only [List.cons_append,loadG];exact loadG_snoc (by simpa using h)
theorem loadG_len:∀ (is:List Nat) (vs:List α) (nets:List α),(loadG nets is vs).length = nets.length
 | [],vs,nets=>by cases vs<;>rfl
 | i :: is,[],nets=>rfl
 | i :: is,v :: vs,nets=>by simp [loadG,loadG_len is vs]
theorem loadG_take {is:List Nat} {vs nets:List α} {i a:Nat} {v:α} (h1:is[i]? = some a) (h2:vs[i]? = some v):loadG nets (is.take (i + 1)) (vs.take (i + 1)) = (loadG nets (is.take i) (vs.take i)).set a v:=by
 rw [take_snoc h1,take_snoc h2]
 have l1:=(List.getElem?_eq_some_iff.1 h1).1
 have l2:=(List.getElem?_eq_some_iff.1 h2).1
 exact loadG_snoc (by rw [List.length_take,List.length_take];omega)
theorem stepG_len (nets:List α) (n:Nat):(stepG A nodes h nets n).length = nets.length:=by unfold stepG;simp
theorem fold_len (l:List Nat) (nets:List α):(l.foldl (stepG A nodes h) nets).length = nets.length:=by
 induction l generalizing nets with
 | nil=>rfl
 | cons a l ih=>rw [List.foldl_cons,ih,stepG_len]
theorem netsG_len (ord ins sts:List Nat) (vi vs:List α):(netsG A nodes h ord ins sts vi vs).length = nodes.length:=by
 unfold netsG;rw [fold_len,loadG_len,loadG_len];simp
theorem fold_take {l:List Nat} {nets:List α} {i n:Nat} (hn:l[i]? = some n):(l.take (i + 1)).foldl (stepG A nodes h) nets = stepG A nodes h ((l.take i).foldl (stepG A nodes h) nets) n:=by
 rw [take_snoc hn,List.foldl_append];rfl
end
end Go.Pc
