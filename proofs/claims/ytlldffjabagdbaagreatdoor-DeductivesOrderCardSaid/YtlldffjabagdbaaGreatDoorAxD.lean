/- AxTop: a call from outside: a43 old block is immutable. -/
import Derived.Test.YtlldffjabagdbaaGreatDoorAxC
import Derived.Below
import GoSem.ClaimChange
import GoSem.ClaimJoined
import Derived.RowKit
import Derived.ChangeSame
import Derived.Carry
import Derived.IntWalk
import Derived.KernelRfl
set_option linter.unusedSimpArgs false
set_option linter.unusedVariables false
namespace Go.Ax
open Go.RowKit
def Old (w:World):Nat → Prop:=fun c=>c < w.heap.size
def Holds (E:Env) (w:World):Prop:=∀ g cs,E.G g = some cs → g < w.heap.size ∧ VAt (Old w) w noP cs g 0
theorem e0s {E:Env} {f:FuncId} {run:List AV → a03 → Option (AV × a03)} (hfy:f ≠ yId) (hf:b01 E f run) {args:List AV} {v:AV} {H':a03} (h:run args [] = some (v,H')) {w:World} (hG:Holds E w) {cargs:List Value} (ha:VRels (Old w) w noP args cargs) :
 Calls E.P f cargs.toArray w fun en w'=>∃ c I' ρ',en = .returned c ∧ Below w.heap.size w w' ∧ VRel I' w' ρ' v c:=by
 have rel:HRel E.G (Old w) (fun _=>False) noP (a01 []) w:=by
  refine ⟨?_,?_,?_,fun c hc=>hc,fun c hc=>hc.elim,fun _ _ h=>h,hG⟩
  ·intro b o hb;simp [a01] at hb
  ·intro b b' m m' hb;simp [a01] at hb
  ·intro b m hb;simp [noP] at hb
 have h0:=hf args [] v H' h (Old w) (fun _=>False) noP w cargs rel (fun _ _=>rfl) ha
 rw [b2j hfy] at h0
 refine Calls.mono h0 ?_
 rintro en w' ⟨c,I',ρ',rfl,hret,hv⟩
 exact ⟨c,I',ρ',rfl,⟨hret.ext.os,hret.ext.tape,hret.ext.output,hret.ext.size,fun k hk=>hret.ext.keep k (.inl hk)⟩,hv⟩
theorem d1g {E:Env} {f:FuncId} {run:List AV → a03 → Option (AV × a03)} (hfy:f ≠ yId) (hf:b01 E f run) {args:List AV} {H':a03} (h:run args [] = some (.bool true,H')) {w:World} (hG:Holds E w) {cargs:List Value} (ha:VRels (Old w) w noP args cargs) :
 Calls E.P f cargs.toArray w fun en w'=>en = .returned (.bool true) ∧ Below w.heap.size w w':=by
 refine (e0s hfy hf h hG ha).mono ?_
 rintro en w' ⟨c,I',ρ',rfl,hb,hv⟩
 simp only [VRel] at hv
 subst hv
 exact ⟨rfl,hb⟩
end Go.Ax
/- AxRead: what the row's reading of an argument gives: abstract values of the argument's type. -/
namespace Go.Ax
def Typ (E:Env):Nat → TypeId → List AV → Prop
 | 0,_,_=>False
 | n + 1,t,avs=>match E.und t with
  | some .bool=>∃ b,avs = [.bool b]
  | some (.int k)=>∃ i,avs = [.int k i] ∧ (Lit.int k i).wf = true
  | some .string=>∃ s,avs = [.str s] ∧ s.length ≤ maxLen
  | some (.slice e)=>avs = [.nilslice] ∨ ∃ rows cap,avs = [.islice rows (some cap)] ∧ rows.length ≤ cap ∧ cap ≤ maxLen ∧ ∀ r ∈ rows,r.length = E.sz e ∧ Typ E n e r
  | some (.struct fs)=>∃ parts:List (List AV),avs = parts.flatten ∧ parts.length = fs.toList.length ∧ ∀ (i:Nat) f p,fs.toList[i]? = some f → parts[i]? = some p → p.length = E.sz f.type ∧ Typ E n f.type p
  | some (.array m e)=>∃ parts:List (List AV),avs = parts.flatten ∧ parts.length = m ∧ ∀ p ∈ parts,p.length = E.sz e ∧ Typ E n e p
  | _=>False
def c6w (E:Env):Nat → List Field → Option Nat
 | o,[]=>some o
 | o,f :: r=>bif Nat.beq f.offset o then c6w E (o + E.sz f.type) r else none
def a4z (E:Env):Nat → TypeId → Bool
 | 0,_=>false
 | n + 1,t=>match E.und t with
  | some .bool=>true
  | some (.int _)=>true
  | some .string=>true
  | some (.slice e)=>(E.und e).isSome && Nat.blt 0 (E.sz e) && a4z E n e
  | some (.struct fs)=>(match c6w E 0 fs.toList with|some m=>Nat.beq m (E.sz t)|none=>false) && fs.toList.all (fun f=>(E.und f.type).isSome && a4z E n f.type)
  | some (.array m e)=>(E.und e).isSome && Nat.beq (m * E.sz e) (E.sz t) && a4z E n e
  | _=>false
section
variable {E:Env} {w:World} {H:Type} {enc:TypeId × Value → H} {base:Nat} {spare:Nat → Bool} {held:Bool}
theorem a3y (ok:EnvOk E) {t:TypeId} {d:TypeDesc} (h:E.und t = some d):E.P.cellsOf t = E.sz t:=by
 obtain ⟨_,i,hi,h1,_⟩:=ok.und t d h
 simp [Program.cellsOf,hi,h1]
theorem c77 {I:Nat → Prop} {k:Nat} {b:Nat} {Pr:List AV → Prop}:∀ (len off:Nat),(∀ i,i < len → ∃ r,Pr r ∧ r.length = k ∧ VAt I w noP r b (off + i * k)) →
 ∃ rows:List (List AV),rows.length = len ∧ (∀ r ∈ rows,r.length = k ∧ Pr r) ∧ VRows I w k noP rows b off
 | 0,off,_=>⟨[],rfl,by simp,by simp [VRows]⟩
 | len + 1,off,h=>by
  obtain ⟨r,h1,h2,h3⟩:=h 0 (by omega)
  obtain ⟨rows,g1,g2,g3⟩:=c77 (Pr:=Pr) len (off + k) (fun i hi=>by
   obtain ⟨r,q1,q2,q3⟩:=h (i + 1) (by omega)
   refine ⟨r,q1,q2,?_⟩
   rw [show off + k + i * k = off + (i + 1) * k by rw [Nat.add_mul];omega];exact q3)
  refine ⟨r :: rows,by simp [g1],?_,?_⟩
  ·intro x hx
   simp only [List.mem_cons] at hx
   rcases hx with rfl|hx
   ·exact ⟨h2,h1⟩
   ·exact g2 x hx
  ·simp only [VRows]
   exact ⟨h2,by simpa using h3,g3⟩
theorem c3j {I:Nat → Prop} {cs:List Value} {n:Nat}:∀ (fs:List Field) (o:Nat) {m:Nat},c6w E o fs = some m → m ≤ cs.length →
 (∀ f ∈ fs,∃ avs,VRels I w noP avs ((cs.drop f.offset).take (E.sz f.type)) ∧ Typ E n f.type avs) →
 o ≤ m ∧ ∃ parts:List (List AV),parts.length = fs.length ∧ (∀ (i:Nat) f p,fs[i]? = some f → parts[i]? = some p → p.length = E.sz f.type ∧ Typ E n f.type p) ∧ VRels I w noP parts.flatten ((cs.drop o).take (m - o))
 | [],o,m,ht,hm,_=>by
  simp only [c6w,Option.some.injEq] at ht;subst ht
  exact ⟨Nat.le_refl _,[],rfl,by simp,by simp [VRels]⟩
 | f :: r,o,m,ht,hm,h=>by
  simp only [c6w,cond_eq_ite] at ht
  split at ht
  case isFalse=>cases ht
  rename_i hfo
  have hfo:f.offset = o:=by simpa using hfo
  obtain ⟨hle,parts,h1,h2,h3⟩:=c3j r (o + E.sz f.type) ht hm (fun g hg=>h g (by simp [hg]))
  obtain ⟨avs,g1,g2⟩:=h f (by simp)
  rw [hfo] at g1
  have hlen:avs.length = E.sz f.type:=by
   have:=VRels.length g1
   rw [this];simp;omega
  refine ⟨by omega,avs :: parts,by simp [h1],?_,?_⟩
  ·intro i g p hg hp
   cases i with
   | zero=>simp only [List.getElem?_cons_zero,Option.some.injEq] at hg hp;subst hg;subst hp;exact ⟨hlen,g2⟩
   | succ i=>simp only [List.getElem?_cons_succ] at hg hp;exact h2 i g p hg hp
  ·simp only [List.flatten_cons]
   have:(cs.drop o).take (m - o) = (cs.drop o).take (E.sz f.type) ++ (cs.drop (o + E.sz f.type)).take (m - (o + E.sz f.type)):=by
    rw [show m - o = E.sz f.type + (m - (o + E.sz f.type)) by omega,List.take_add,List.drop_drop]
   rw [this]
   exact VRels.append g1 h3
theorem d5o {I:Nat → Prop} {cs:List Value} {n k:Nat} {e:TypeId}:∀ (m o:Nat),o + m * k ≤ cs.length →
 (∀ i,i < m → ∃ avs,VRels I w noP avs ((cs.drop (o + i * k)).take k) ∧ Typ E n e avs) →
 ∃ parts:List (List AV),parts.length = m ∧ (∀ p ∈ parts,p.length = k ∧ Typ E n e p) ∧ VRels I w noP parts.flatten ((cs.drop o).take (m * k))
 | 0,o,_,_=>⟨[],rfl,by simp,by simp [VRels]⟩
 | m + 1,o,hl,h=>by
  have hmk:(m + 1) * k = k + m * k:=by rw [Nat.add_mul];omega
  obtain ⟨parts,h1,h2,h3⟩:=d5o (cs:=cs) (k:=k) (e:=e) m (o + k) (by omega) (fun i hi=>by
   obtain ⟨avs,g1,g2⟩:=h (i + 1) (by omega)
   refine ⟨avs,?_,g2⟩
   rw [show o + k + i * k = o + (i + 1) * k by rw [Nat.add_mul];omega];exact g1)
  obtain ⟨avs,g1,g2⟩:=h 0 (by omega)
  rw [Nat.zero_mul,Nat.add_zero] at g1
  have hlen:avs.length = k:=by
   have:=VRels.length g1
   rw [this];simp;omega
  refine ⟨avs :: parts,by simp [h1],?_,?_⟩
  ·intro p hp
   simp only [List.mem_cons] at hp
   rcases hp with rfl|hp
   ·exact ⟨hlen,g2⟩
   ·exact h2 p hp
  ·simp only [List.flatten_cons]
   rw [hmk,List.take_add,List.drop_drop]
   exact VRels.append g1 h3
theorem b82 {α β:Type} {f:α → Option β} {l:List α} {r:List β} (h:l.mapM f = some r):∀ x ∈ l,∃ y,f x = some y:=by
 induction l generalizing r with
 | nil=>simp
 | cons a l ih=>
  rw [List.mapM_cons] at h
  intro x hx
  cases hfa:f a with
  | none=>simp [hfa] at h
  | some y=>
   simp only [hfa,Option.bind_eq_bind,Option.bind_some] at h
   cases hl:l.mapM f with
   | none=>simp [hl] at h
   | some r'=>
    simp only [List.mem_cons] at hx
    rcases hx with rfl|hx
    ·exact ⟨y,hfa⟩
    ·exact ih hl x hx
theorem b5c {I:Nat → Prop} {avs:List AV} {cs:List Value} {b off:Nat} (hc:∀ i v,cs[i]? = some v → w.cell? ⟨b,off + i,none⟩ = some v) (h:VRels I w noP avs cs):VAt I w noP avs b off:=
 VAt.of_cells (fun i v hv=>hc i v hv) h
theorem c1z (ok:EnvOk E):∀ (n:Nat) (t:TypeId),a4z E n t = true → ∀ (fuel:Nat) (cs:List Value) (x:DataW H × List MemPlace),DataW.trod enc E.P w base spare held fuel t cs = some x →
 ∃ avs,VRels (Old w) w noP avs cs ∧ Typ E n t avs
 | 0,t,hr=>by simp [a4z] at hr
 | n + 1,t,hr=>by
  intro fuel cs x h
  cases fuel with
  | zero=>simp [DataW.trod] at h
  | succ fuel=>
  have ih:=c1z ok n
  unfold a4z at hr
  unfold DataW.trod at h
  cases hu:E.und t with
  | none=>rw [hu] at hr;simp at hr
  | some d=>
   have hP:=(ok.und t d hu).1
   have hsz:=a3y ok hu
   rw [hu] at hr
   rw [hP] at h
   cases d<;>simp only [Bool.false_eq_true] at hr
   case bool=>
    obtain ⟨b,rfl⟩:∃ b,cs = [.bool b]:=by split at h<;>simp_all
    exact ⟨[.bool b],by simp [VRels,VRel],by simp [Typ,hu]⟩
   case int k=>
    obtain ⟨i,rfl,hw⟩:∃ i,cs = [.int k i] ∧ (Lit.int k i).wf = true:=by
     split at h<;>simp_all
    exact ⟨[.int k i],by simp [VRels,VRel],by simp [Typ,hu,hw]⟩
   case string=>
    obtain ⟨b,rfl,hw⟩:∃ b:ByteArray,cs = [.string b] ∧ b.size ≤ maxLen:=by
     split at h<;>simp_all
    exact ⟨[.str b.data.toList],by simp [VRels,VRel],by simp only [Typ,hu];exact ⟨_,rfl,by simpa using hw⟩⟩
   case slice e=>
    simp only [Bool.and_eq_true,Nat.blt_eq] at hr
    obtain ⟨⟨hr1,hr2⟩,hr3⟩:=hr
    obtain ⟨de,hde⟩:=Option.isSome_iff_exists.1 hr1
    have hsze:=a3y ok hde
    have hkey:cs = [.slice none 0 0] ∨ ∃ a len cap,cs = [.slice (some a) len cap] ∧ len ≤ cap ∧ cap ≤ maxLen ∧
     ∃ elems,((List.range len).mapM fun i=>(w.cells? base (a.add (i * E.P.cellsOf e)) (E.P.cellsOf e)).bind (DataW.trod enc E.P w base spare held fuel e)) = some elems:=by
     split at h
     all_goals first|(rename_i heq;cases heq;done)|(cases h;done)|skip
     ·left;rfl
     ·rename_i e' a len cap heq
      cases heq
      dsimp only at h
      split at h
      case isFalse=>cases h
      rename_i hc
      right
      refine ⟨a,len,cap,rfl,hc.2.1,hc.2.2,?_⟩
      cases hm:((List.range len).mapM fun i=>(w.cells? base (a.add (i * E.P.cellsOf e)) (E.P.cellsOf e)).bind (DataW.trod enc E.P w base spare held fuel e)) with
      | none=>rw [hm] at h;simp at h
      | some elems=>exact ⟨elems,rfl⟩
    rcases hkey with rfl|⟨a,len,cap,rfl,hlc,hcm,elems,hel⟩
    ·exact ⟨[.nilslice],by simp [VRels,VRel],by simp only [Typ,hu];exact .inl trivial⟩
    ·have hrow:∀ i,i < len → ∃ r,Typ E n e r ∧ r.length = E.sz e ∧ VAt (Old w) w noP r a.block (a.off + i * E.sz e) ∧ a.spot = none ∧ a.block < w.heap.size:=by
      have hat:∀ i,i < len → ∃ cs' y,cs'.length = E.sz e ∧ (∀ j,j < E.sz e → w.cell? ((a.add (i * E.sz e)).add j) = cs'[j]?) ∧ DataW.trod enc E.P w base spare held fuel e cs' = some y:=by
       intro i hi
       obtain ⟨y,hy⟩:=b82 hel i (by simpa using hi)
       rw [hsze] at hy
       cases hc:w.cells? base (a.add (i * E.sz e)) (E.sz e) with
       | none=>rw [hc] at hy;simp at hy
       | some cs'=>
        rw [hc] at hy
        obtain ⟨_,h2,h3⟩:=World.cells?_some hc
        exact ⟨cs',y,h2,h3,by simpa using hy⟩
      intro i hi
      have hspot:a.spot = none ∧ a.block < w.heap.size:=by
       obtain ⟨cs0,y0,h1,h2,_⟩:=hat 0 (by omega)
       have h3:=h2 0 hr2
       rw [Nat.zero_mul,show (a.add 0).add 0 = a from by simp [Addr.add],z9e (by omega)] at h3
       unfold World.cell? at h3
       split at h3
       ·rename_i hb
        refine ⟨?_,(Array.getElem?_eq_some_iff.1 hb).1⟩
        cases hs:a.spot with
        | none=>rfl
        | some _=>rw [hs] at h3;simp at h3
       ·cases h3
      obtain ⟨cs',y,h1,h2,h3⟩:=hat i hi
      obtain ⟨r,q1,q2⟩:=ih e hr3 fuel cs' y h3
      refine ⟨r,q2,by rw [VRels.length q1,h1],b5c ?_ q1,hspot⟩
      intro j v hv
      have hj:j < E.sz e:=by rw [← h1];exact (List.getElem?_eq_some_iff.1 hv).1
      have:=h2 j hj
      rw [hv] at this
      rw [← this]
      congr 1
      obtain ⟨ab,ao,as⟩:=a
      obtain ⟨rfl,_⟩:=hspot
      unfold Addr.add
      split<;>split<;>simp_all
     obtain ⟨rows,g1,g2,g3⟩:=c77 (Pr:=Typ E n e) len a.off (fun i hi=>by
      obtain ⟨r,q1,q2,q3,_⟩:=hrow i hi
      exact ⟨r,q1,q2,q3⟩)
     refine ⟨[.islice rows (some cap)],?_,by simp only [Typ,hu];exact .inr ⟨rows,cap,rfl,by omega,hcm,g2⟩⟩
     simp only [VRels]
     refine ⟨_,[],rfl,?_,rfl⟩
     simp only [VRel]
     refine ⟨a,cap,E.sz e,by rw [g1],by omega,by simp,?_⟩
     cases len with
     | zero=>exact .inl (List.length_eq_zero_iff.1 g1)
     | succ len=>
      obtain ⟨_,_,_,_,q4,q5⟩:=hrow 0 (by omega)
      exact .inr ⟨q4,q5,g3⟩
   case struct fs=>
    simp only [Bool.and_eq_true,List.all_eq_true] at hr
    obtain ⟨hr1,hr2⟩:=hr
    split at hr1
    case h_2=>cases hr1
    rename_i m hm
    have hmt:m = E.sz t:=by simpa using hr1
    have hkey:cs.length = E.P.cellsOf t ∧ ∃ xs,(fs.toList.mapM fun f=>DataW.trod enc E.P w base spare held fuel f.type ((cs.drop f.offset).take (E.P.cellsOf f.type))) = some xs:=by
     dsimp only at h
     split at h
     ·rename_i hl
      obtain ⟨xs,hxs,_⟩:=a05 h
      exact ⟨hl,xs,hxs⟩
     ·cases h
    obtain ⟨hlen,xs,hxs⟩:=hkey
    obtain ⟨_,parts,h1,h2,h3⟩:=c3j (E:=E) (I:=Old w) (w:=w) (cs:=cs) (n:=n) fs.toList 0 hm (by omega) (fun f hf=>by
     obtain ⟨y,hy⟩:=b82 hxs f hf
     have h2:=hr2 f hf
     obtain ⟨df,hdf⟩:=Option.isSome_iff_exists.1 h2.1
     rw [a3y ok hdf] at hy
     exact ih f.type h2.2 fuel _ _ hy)
    refine ⟨parts.flatten,?_,by simp only [Typ,hu];exact ⟨parts,rfl,h1,h2⟩⟩
    rw [List.drop_zero,Nat.sub_zero,List.take_of_length_le (by omega)] at h3
    exact h3
   case array m e=>
    simp only [Bool.and_eq_true] at hr
    obtain ⟨⟨hr1,hr2⟩,hr3⟩:=hr
    obtain ⟨de,hde⟩:=Option.isSome_iff_exists.1 hr1
    have hsze:=a3y ok hde
    have hmk:m * E.sz e = E.sz t:=by simpa using hr2
    have hkey:cs.length = E.P.cellsOf t ∧ ∃ xs,((List.range m).mapM fun i=>DataW.trod enc E.P w base spare held fuel e ((cs.drop (i * E.P.cellsOf e)).take (E.P.cellsOf e))) = some xs:=by
     dsimp only at h
     split at h
     ·rename_i hl
      obtain ⟨xs,hxs,_⟩:=a05 h
      exact ⟨hl,xs,hxs⟩
     ·cases h
    obtain ⟨hlen,xs,hxs⟩:=hkey
    obtain ⟨parts,h1,h2,h3⟩:=d5o (E:=E) (I:=Old w) (w:=w) (cs:=cs) (n:=n) (k:=E.sz e) (e:=e) m 0 (by omega) (fun i hi=>by
     obtain ⟨y,hy⟩:=b82 hxs i (by simpa using hi)
     rw [hsze] at hy
     rw [Nat.zero_add]
     exact ih e hr3 fuel _ _ hy)
    refine ⟨parts.flatten,?_,by simp only [Typ,hu];exact ⟨parts,rfl,h1,h2⟩⟩
    rw [List.drop_zero,List.take_of_length_le (by omega)] at h3
    exact h3
end
end Go.Ax
/- AxArgs: a row's arguments as abstract values. -/
namespace Go.Ax
def d5u (E:Env) (n:Nat) (t:TypeId) (av:AV):Prop:=
 match E.und t with
 | some d=>bif a1z d then ∃ avs,av = .agg avs ∧ Typ E n t avs else Typ E n t [av]
 | none=>False
def TypAs (E:Env) (n:Nat):List TypeId → List AV → Prop
 | [],avs=>avs = []
 | t :: ts,avs=>∃ a r,avs = a :: r ∧ d5u E n t a ∧ TypAs E n ts r
section
variable {E:Env} {w:World} {H:Type} {enc:TypeId × Value → H} {spare:Nat → Bool} {held:Bool} {b0:Nat}
theorem e2n (ok:EnvOk E) {n:Nat} {t:TypeId} {v:Value} {d:DataW H} {ps:List MemPlace} (hr:a4z E n t = true) (hv:Value.okWide E.P w .any b0 t v) (h:DataW.Trod enc E.P w 0 spare held t v d ps) :
 ∃ a,VRel (Old w) w noP a v ∧ d5u E n t a:=by
 obtain ⟨fuel,hf⟩:=h
 obtain ⟨avs,h1,h2⟩:=c1z ok n t hr fuel _ _ hf
 cases hu:E.und t with
 | none=>cases n<;>simp [a4z,hu] at hr
 | some dd=>
  have hP:=(ok.und t dd hu).1
  unfold Value.okWide at hv
  rw [hP] at hv
  cases hag:a1z dd with
  | true=>
   have hv:∃ cs,v = .agg cs ∧ cs.size = E.P.cellsOf t ∧ Row.okWide E.P w .any b0 t cs:=by
    cases dd<;>simp [a1z] at hag<;>exact hv
   obtain ⟨cs,rfl,_,_⟩:=hv
   exact ⟨.agg avs,by simp only [VRel];exact ⟨cs,rfl,h1⟩,by simp only [d5u,hu,hag,cond_true];exact ⟨avs,rfl,h2⟩⟩
  | false=>
   have hcell:v.cells = #[v]:=by
    cases v with
    | agg cs=>
     exfalso
     cases dd<;>simp [a1z] at hag<;>simp [Cell.okWide,Cell.ok,hP] at hv
    | _=>rfl
   rw [hcell] at h1
   have h3:=h1
   obtain ⟨a,rfl⟩:∃ a,avs = [a]:=by
    have:=VRels.length h1
    match avs,this with
    | [a],_=>exact ⟨a,rfl⟩
   simp only [VRels] at h3
   obtain ⟨c,_,hc,h4,rfl⟩:=h3
   simp only [List.cons.injEq,and_true] at hc
   subst hc
   exact ⟨a,h4,by simp only [d5u,hu,hag,cond_false];exact h2⟩
theorem d0b (ok:EnvOk E) {n:Nat}:∀ (ts:List TypeId) (vs:List Value) (ds:List (DataW H)) (ps:List MemPlace),DataW.TrodAll enc E.P w 0 spare held ts vs ds ps →
 (∀ (j:Nat) t v,ts[j]? = some t → vs[j]? = some v → Value.okWide E.P w .any b0 t v) → (ts.all (a4z E n)) = true → ∃ args,VRels (Old w) w noP args vs ∧ TypAs E n ts args
 | [],vs,ds,ps,h,_,_=>by
  cases vs with
  | nil=>exact ⟨[],by simp [VRels],rfl⟩
  | cons v vs=>cases ds<;>simp [DataW.TrodAll] at h
 | t :: ts,vs,ds,ps,h,hv,hr=>by
  cases vs with
  | nil=>cases ds<;>simp [DataW.TrodAll] at h
  | cons v vs=>
   cases ds with
   | nil=>simp [DataW.TrodAll] at h
   | cons d ds=>
    simp only [DataW.TrodAll] at h
    obtain ⟨p,q,h1,h2,_⟩:=h
    simp only [List.all_cons,Bool.and_eq_true] at hr
    obtain ⟨a,g1,g2⟩:=e2n ok hr.1 (hv 0 t v rfl rfl) h1
    obtain ⟨r,g3,g4⟩:=d0b ok ts vs ds q h2 (fun j t v ht hv'=>hv (j + 1) t v (by simpa using ht) (by simpa using hv')) hr.2
    exact ⟨a :: r,by simp only [VRels];exact ⟨v,vs,rfl,g1,g3⟩,⟨a,r,rfl,g2,g4⟩⟩
end
end Go.Ax
/- AxLaid: what a listed package-level variable reads as, as abstract cells. -/
namespace Go.Ax
def c45 (E:Env) (f:TypeId → DataW Unit → Option (List AV)):Nat → List Field → List (DataW Unit) → Option (List AV)
 | _,[],[]=>some []
 | o,x :: fs,d :: ds=>bif Nat.beq x.offset o && (E.und x.type).isSome then
  match f x.type d,c45 E f (o + E.sz x.type) fs ds with
  | some a,some b=>bif Nat.beq a.length (E.sz x.type) then some (a ++ b) else none
  | _,_=>none
  else none
 | _,_,_=>none
def b4s (k:Nat) (f:DataW Unit → Option (List AV)):List (DataW Unit) → Option (List (List AV))
 | []=>some []
 | d :: ds=>match f d,b4s k f ds with
  | some a,some b=>bif Nat.beq a.length k then some (a :: b) else none
  | _,_=>none
def b5p (E:Env):Nat → TypeId → DataW Unit → Option (List AV)
 | 0,_,_=>none
 | n + 1,t,d=>match E.und t,d with
  | some .bool,.lit (.bool b)=>some [.bool b]
  | some (.int k),.lit (.int k' i)=>bif k == k' then some [.int k i] else none
  | some .string,.lit (.string s)=>some [.str s]
  | some (.struct fs),.agg ds=>match c45 E (b5p E n) 0 fs.toList ds with
   | some avs=>bif Nat.beq avs.length (E.sz t) then some avs else none
   | none=>none
  | some (.array m e),.agg ds=>bif (E.und e).isSome && Nat.beq (m * E.sz e) (E.sz t) && Nat.beq ds.length m then (b4s (E.sz e) (b5p E n e) ds).map List.flatten else none
  | some (.slice _),.nil=>some [.nilslice]
  | some (.slice e),.slice es spare=>bif (E.und e).isSome && Nat.blt 0 (E.sz e) && Nat.blt 0 es.length then (b4s (E.sz e) (b5p E n e) es).map fun rows=>[.islice rows (some (es.length + spare.length))] else none
  | _,_=>none
section
variable {E:Env} {w:World} {enc:TypeId × Value → Unit} {base:Nat} {held:Bool}
theorem a7k {α β:Type} {f:α → Option β} {a:α} {l:List α} {r:List β} (h:(a :: l).mapM f = some r):∃ b r',f a = some b ∧ l.mapM f = some r' ∧ r = b :: r':=by
 rw [List.mapM_cons] at h
 cases hfa:f a with
 | none=>simp [hfa] at h
 | some y=>
  simp only [hfa,Option.bind_eq_bind,Option.bind_some] at h
  cases hl:l.mapM f with
  | none=>simp [hl] at h
  | some r'=>simp only [hl,Option.bind_some] at h;cases h;exact ⟨y,r',rfl,rfl,rfl⟩
theorem b80 {α β:Type} {f:α → Option β}:∀ {l:List α} {r:List β},l.mapM f = some r → r.length = l.length
 | [],r,h=>by cases h;rfl
 | a :: l,r,h=>by
  obtain ⟨b,r',_,h2,rfl⟩:=a7k h
  simp [b80 h2]
theorem b81 {α β:Type} {f:α → Option β}:∀ {l:List α} {r:List β},l.mapM f = some r → ∀ (i:Nat) a,l[i]? = some a → ∃ b,f a = some b ∧ r[i]? = some b
 | [],r,h,i,a,ha=>by simp at ha
 | x :: l,r,h,i,a,ha=>by
  obtain ⟨b,r',h1,h2,rfl⟩:=a7k h
  cases i with
  | zero=>simp only [List.getElem?_cons_zero,Option.some.injEq] at ha;subst ha;exact ⟨b,h1,rfl⟩
  | succ i=>simp only [List.getElem?_cons_succ] at ha ⊢;exact b81 h2 i a ha
theorem b1r {k:Nat} {f:DataW Unit → Option (List AV)}:∀ {ds:List (DataW Unit)} {rows:List (List AV)},b4s k f ds = some rows → rows.length = ds.length
 | [],rows,h=>by cases h;rfl
 | d :: ds,rows,h=>by
  simp only [b4s] at h
  split at h
  case h_2=>cases h
  rename_i a b ha hb
  rw [cond_eq_ite] at h
  split at h
  ·cases h;simp [b1r hb]
  ·cases h
theorem b1s {k:Nat} {f:DataW Unit → Option (List AV)}:∀ {ds:List (DataW Unit)} {rows:List (List AV)},b4s k f ds = some rows → ∀ (i:Nat) d,ds[i]? = some d → ∃ a,f d = some a ∧ a.length = k ∧ rows[i]? = some a
 | [],rows,h,i,d,hd=>by simp at hd
 | x :: ds,rows,h,i,d,hd=>by
  simp only [b4s] at h
  split at h
  case h_2=>cases h
  rename_i a b ha hb
  rw [cond_eq_ite] at h
  split at h
  case isFalse=>cases h
  rename_i hk
  cases h
  cases i with
  | zero=>simp only [List.getElem?_cons_zero,Option.some.injEq] at hd;subst hd;exact ⟨a,ha,by simpa using hk,rfl⟩
  | succ i=>simp only [List.getElem?_cons_succ] at hd ⊢;exact b1s hb i d hd
theorem b4v {I:Nat → Prop} {cs:List Value} {f:TypeId → DataW Unit → Option (List AV)} {g:Field → Option (DataW Unit × List MemPlace)}
 (hg:∀ x y avs,g x = some y → f x.type y.1 = some avs → VRels I w noP avs ((cs.drop x.offset).take (E.sz x.type))) :
 ∀ (fs:List Field) (o:Nat) {xs:List (DataW Unit × List MemPlace)} {avs:List AV},fs.mapM g = some xs → c45 E f o fs (xs.map (·.1)) = some avs → VRels I w noP avs ((cs.drop o).take avs.length)
 | [],o,xs,avs,hm,hf=>by
  cases hm
  cases hf
  simp [VRels]
 | x :: fs,o,xs,avs,hm,hf=>by
  obtain ⟨y,ys,h1,h2,rfl⟩:=a7k hm
  simp only [List.map_cons,c45] at hf
  rw [cond_eq_ite] at hf
  split at hf
  case isFalse=>cases hf
  rename_i hc
  simp only [Bool.and_eq_true,Nat.beq_eq] at hc
  split at hf
  case h_2=>cases hf
  rename_i a b ha hb
  rw [cond_eq_ite] at hf
  split at hf
  case isFalse=>cases hf
  rename_i hl
  rw [Nat.beq_eq] at hl
  cases hf
  have ih:=b4v hg fs _ h2 hb
  have h3:=hg x y a h1 ha
  rw [hc.1,← hl] at h3
  rw [List.length_append,List.take_add,List.drop_drop,hl] at *
  exact VRels.append h3 ih
theorem b9j {I:Nat → Prop} {cs:List Value} {k:Nat}:∀ (rows:List (List AV)) (o:Nat),(∀ (i:Nat) r,rows[i]? = some r → r.length = k ∧ VRels I w noP r ((cs.drop (o + i * k)).take k)) →
 VRels I w noP rows.flatten ((cs.drop o).take (rows.length * k))
 | [],o,_=>by simp [VRels]
 | r :: rows,o,h=>by
  have h0:=h 0 r rfl
  have ih:=b9j rows (o + k) (fun i r hr=>by
   have:=h (i + 1) r (by simpa using hr)
   rw [show o + k + i * k = o + (i + 1) * k by rw [Nat.add_mul];omega];exact this)
  simp only [List.flatten_cons,List.length_cons]
  rw [show (rows.length + 1) * k = k + rows.length * k by rw [Nat.add_mul];omega,List.take_add,List.drop_drop]
  refine VRels.append ?_ ih
  simpa using h0.2
theorem c07 (ok:EnvOk E):∀ (n:Nat) (t:TypeId) (fuel:Nat) (cs:List Value) (x:DataW Unit × List MemPlace) (avs:List AV),DataW.trod enc E.P w base (fun _=>true) held fuel t cs = some x → b5p E n t x.1 = some avs →
 VRels (Old w) w noP avs cs
 | 0,t,fuel,cs,x,avs,_,hf=>by simp [b5p] at hf
 | n + 1,t,0,cs,x,avs,h,hf=>by simp [DataW.trod] at h
 | n + 1,t,fuel + 1,cs,x,avs,h,hf=>by
  have ih:=c07 ok n
  unfold b5p at hf
  unfold DataW.trod at h
  cases hu:E.und t with
  | none=>rw [hu] at hf;simp at hf
  | some dd=>
   have hP:=(ok.und t dd hu).1
   have hszt:=a3y ok hu
   rw [hu] at hf
   rw [hP] at h
   cases dd
   case bool=>
    obtain ⟨b,rfl,rfl⟩:∃ b,cs = [.bool b] ∧ x = (.lit (.bool b),[]):=by split at h<;>simp_all
    simp only [Option.some.injEq] at hf
    subst hf
    simp [VRels,VRel]
   case int k=>
    obtain ⟨b,rfl,rfl⟩:∃ b,cs = [.int k b] ∧ x = (.lit (.int k b),[]):=by split at h<;>simp_all
    simp only [cond_eq_ite] at hf
    split at hf
    ·cases hf;simp [VRels,VRel]
    ·cases hf
   case string=>
    obtain ⟨b,rfl,rfl⟩:∃ b:ByteArray,cs = [.string b] ∧ x = (.lit (.string b.data.toList),[]):=by split at h<;>simp_all
    simp only [Option.some.injEq] at hf
    subst hf
    simp [VRels,VRel]
   case struct fs=>
    dsimp only at h
    split at h
    case isFalse=>cases h
    rename_i hl
    obtain ⟨xs,hxs,rfl⟩:=a05 h
    dsimp only at hf
    split at hf
    case h_2=>cases hf
    rename_i avs' hff
    rw [cond_eq_ite] at hf
    split at hf
    case isFalse=>cases hf
    rename_i hl2
    rw [Nat.beq_eq] at hl2
    cases hf
    have key:=b4v (E:=E) (I:=Old w) (w:=w) (cs:=cs) (f:=b5p E n)
     (g:=fun f=>DataW.trod enc E.P w base (fun _=>true) held fuel f.type ((cs.drop f.offset).take (E.P.cellsOf f.type))) ?_ fs.toList 0 hxs hff
    ·rw [List.drop_zero,List.take_of_length_le (by omega)] at key
     exact key
    ·intro x y avs hy hfa
     have hund:∃ dx,E.und x.type = some dx:=by
      cases n with
      | zero=>simp [b5p] at hfa
      | succ n=>unfold b5p at hfa;cases hux:E.und x.type with
       | none=>rw [hux] at hfa;simp at hfa
       | some dx=>exact ⟨dx,rfl⟩
     obtain ⟨dx,hdx⟩:=hund
     rw [a3y ok hdx] at hy
     exact ih x.type fuel _ y avs hy hfa
   case array m e=>
    dsimp only at h
    split at h
    case isFalse=>cases h
    rename_i hl
    obtain ⟨xs,hxs,rfl⟩:=a05 h
    dsimp only at hf
    rw [cond_eq_ite] at hf
    split at hf
    case isFalse=>cases hf
    rename_i hc
    simp only [Bool.and_eq_true,Nat.beq_eq] at hc
    obtain ⟨rows,hrows,rfl⟩:=a05 hf
    obtain ⟨de,hde⟩:=Option.isSome_iff_exists.1 hc.1.1
    have hsze:=a3y ok hde
    have hlen:rows.length = m:=by rw [b1r hrows];simpa using hc.2
    have key:=b9j (I:=Old w) (w:=w) (cs:=cs) (k:=E.sz e) rows 0 (fun i r hr=>by
     have hi:i < m:=by rw [← hlen];exact (List.getElem?_eq_some_iff.1 hr).1
     obtain ⟨y,hy,hyi⟩:=b81 hxs i i (by simp [hi])
     obtain ⟨a,ha,hal,hai⟩:=b1s hrows i y.1 (by simp [hyi])
     rw [hr] at hai
     cases hai
     refine ⟨hal,?_⟩
     rw [Nat.zero_add]
     rw [hsze] at hy
     exact ih e fuel _ y r hy ha)
    rw [List.drop_zero,List.take_of_length_le (by rw [hlen];omega)] at key
    exact key
   case slice e=>
    split at h
    all_goals first|(rename_i heq;cases heq;done)|(cases h;done)|skip
    ·cases h
     simp only [Option.some.injEq] at hf
     subst hf
     simp [VRels,VRel]
    ·rename_i e' a len cap heq
     cases heq
     dsimp only at h
     split at h
     case isFalse=>cases h
     rename_i hc
     cases hm:((List.range len).mapM fun i=>(w.cells? base (a.add (i * E.P.cellsOf e)) (E.P.cellsOf e)).bind (DataW.trod enc E.P w base (fun _=>true) held fuel e)) with
     | none=>rw [hm] at h;simp at h
     | some elems=>
      rw [hm] at h
      simp only [Option.bind_some,if_true] at h
      obtain ⟨rest,hrest,rfl⟩:=a05 h
      dsimp only at hf
      rw [cond_eq_ite] at hf
      split at hf
      case isFalse=>cases hf
      rename_i hc2
      simp only [Bool.and_eq_true,Nat.blt_eq,List.length_map] at hc2
      obtain ⟨rows,hrows,rfl⟩:=a05 hf
      obtain ⟨de,hde⟩:=Option.isSome_iff_exists.1 hc2.1.1
      have hsze:=a3y ok hde
      have hlr:rows.length = elems.length:=by rw [b1r hrows];simp
      have hle:elems.length = len:=by rw [b80 hm];simp
      have hlrest:rest.length = cap - len:=by rw [b80 hrest];simp
      have hat:∀ i,i < len → ∃ cs' y,elems[i]? = some y ∧ cs'.length = E.sz e ∧ (∀ j,j < E.sz e → w.cell? ((a.add (i * E.sz e)).add j) = cs'[j]?) ∧ DataW.trod enc E.P w base (fun _=>true) held fuel e cs' = some y:=by
       intro i hi
       obtain ⟨y,hy,hyi⟩:=b81 hm i i (by simp [hi])
       rw [hsze] at hy
       cases hcs:w.cells? base (a.add (i * E.sz e)) (E.sz e) with
       | none=>rw [hcs] at hy;simp at hy
       | some cs'=>
        rw [hcs] at hy
        obtain ⟨_,h2,h3⟩:=World.cells?_some hcs
        exact ⟨cs',y,hyi,h2,h3,by simpa using hy⟩
      have hspot:a.spot = none ∧ a.block < w.heap.size:=by
       obtain ⟨cs0,y0,_,h1,h2,_⟩:=hat 0 (by omega)
       have h3:=h2 0 hc2.1.2
       rw [Nat.zero_mul,show (a.add 0).add 0 = a from by simp [Addr.add],z9e (by omega)] at h3
       unfold World.cell? at h3
       split at h3
       ·rename_i hb
        refine ⟨?_,(Array.getElem?_eq_some_iff.1 hb).1⟩
        cases hs:a.spot with
        | none=>rfl
        | some _=>rw [hs] at h3;simp at h3
       ·cases h3
      simp only [VRels]
      refine ⟨_,[],rfl,?_,rfl⟩
      simp only [VRel]
      refine ⟨a,cap,E.sz e,by rw [hlr,hle],by omega,fun n hn=>by cases hn;simp;omega,.inr ⟨hspot.1,hspot.2,?_⟩⟩
      have key:∀ (rows':List (List AV)) (o:Nat),(∀ (i:Nat) r,rows'[i]? = some r → r.length = E.sz e ∧ VAt (Old w) w noP r a.block (a.off + (o + i) * E.sz e)) → VRows (Old w) w (E.sz e) noP rows' a.block (a.off + o * E.sz e):=by
       intro rows'
       induction rows' with
       | nil=>intro o _;simp [VRows]
       | cons r rs ihr=>
        intro o hh
        have h0:=hh 0 r rfl
        simp only [VRows]
        refine ⟨h0.1,by simpa using h0.2,?_⟩
        rw [show a.off + o * E.sz e + E.sz e = a.off + (o + 1) * E.sz e by rw [Nat.add_mul];omega]
        refine ihr (o + 1) (fun i r hr=>?_)
        have:=hh (i + 1) r (by simpa using hr)
        rw [show o + 1 + i = o + (i + 1) by omega]
        exact this
      have:=key rows 0 (fun i r hr=>by
       have hi:i < len:=by rw [← hle,← hlr];exact (List.getElem?_eq_some_iff.1 hr).1
       obtain ⟨cs',y,h0,h1,h2,h3⟩:=hat i hi
       obtain ⟨av,ha,hal,hai⟩:=b1s hrows i y.1 (by simp [h0])
       rw [hr] at hai
       cases hai
       refine ⟨hal,?_⟩
       rw [Nat.zero_add]
       refine b5c ?_ (ih e fuel _ y r h3 ha)
       intro j v hv
       have hj:j < E.sz e:=by rw [← h1];exact (List.getElem?_eq_some_iff.1 hv).1
       have:=h2 j hj
       rw [hv] at this
       rw [← this]
       congr 1
       obtain ⟨ab,ao,as⟩:=a
       obtain ⟨rfl,_⟩:=hspot
       unfold Addr.add
       split<;>split<;>simp_all)
      simpa using this
   all_goals (simp only at hf;first|(cases hf;done)|(split at hf<;>cases hf))
theorem holds_of_laid (ok:EnvOk E) {laid:List (String × DataW Unit)} (h:laidMet E.P laid w)
 (hG:∀ g cs,E.G g = some cs → ∃ x ∈ laid,E.P.globalNamed x.1 = some g ∧ ∃ t,(E.P.globals[g]?).map (·.type) = some t ∧ b5p E 8 t x.2 = some cs):Holds E w:=by
 obtain ⟨ps,hv,hnd,hcell⟩:=h
 have hall:∀ (l:List (String × DataW Unit)) ps,DataW.LaidVars E.P w l ps → ∀ x ∈ l,∃ g t cs fuel p,E.P.globalNamed x.1 = some g ∧ (E.P.globals[g]?).map (·.type) = some t ∧ w.var? E.P x.1 = some cs ∧ DataW.trod (fun _=>()) E.P w 0 (fun _=>true) false fuel t cs.toList = some (x.2,p):=by
  intro l
  induction l with
  | nil=>intro ps _ x hx;simp at hx
  | cons y r ih=>
   intro ps hv x hx
   obtain ⟨n,d⟩:=y
   simp only [DataW.LaidVars] at hv
   obtain ⟨g,t,cs,fuel,p,q,h1,h2,h3,h4,h5,_⟩:=hv
   simp only [List.mem_cons] at hx
   rcases hx with rfl|hx
   ·exact ⟨g,t,cs,fuel,p,h1,h2,h3,h4⟩
   ·exact ih q h5 x hx
 intro g cs hg
 obtain ⟨x,hx,h1,t,h2,h3⟩:=hG g cs hg
 obtain ⟨g',t',cs',fuel,p,k1,k2,k3,k4⟩:=hall laid ps hv x hx
 obtain rfl:g' = g:=z9o (k1.symm.trans h1)
 obtain rfl:t' = t:=z9o (k2.symm.trans h2)
 have hr:=c07 ok 8 t' fuel _ (x.2,p) cs k4 h3
 unfold World.var? at k3
 rw [k1] at k3
 simp only [Option.bind_some] at k3
 split at k3
 case h_2=>cases k3
 rename_i cs2 e fz hheap
 cases k3
 refine ⟨(Array.getElem?_eq_some_iff.1 hheap).1,?_⟩
 refine VAt.of_cells (cs:=cs'.toList) (CellsAt.of_heap hheap ?_) hr
 intro j v hv
 simpa using hv
end
end Go.Ax
/- AxLaw: from a run of a law's body that answers true, for all d61 arguments, to what a row asks. -/
namespace Go.Ax
open Go.ChangeShapes Go.WideShapes Go.RowKit
section
variable {E:Env} {H:Type} {enc:TypeId × Value → H}
theorem b05 {P:Program} (hl:laidOutB P = true) {W W':World} (hb:Below W.heap.size W W') {sp:Nat → Bool}:∀ (ts:List TypeId) (vs:List Value) (ds:List (DataW H)) (ps:List MemPlace),
 (ts.all fun t=>P.readableRec t && decide (t < P.types.size)) = true → (∀ p ∈ ps,p.block < W.heap.size) → (∀ p ∈ ps,sp p.block = true) →
 DataW.TrodAll enc P W 0 (fun _=>true) true ts vs ds ps → DataW.TrodAll enc P W' 0 sp true ts vs ds ps
 | [],vs,ds,ps,_,_,_,h=>by
  cases vs<;>cases ds<;>simp only [DataW.TrodAll] at h ⊢<;>exact h
 | t :: ts,vs,ds,ps,hr,hlt,hs,h=>by
  cases vs with
  | nil=>simp [DataW.TrodAll] at h
  | cons v vs=>
   cases ds with
   | nil=>simp [DataW.TrodAll] at h
   | cons d ds=>
    simp only [DataW.TrodAll] at h ⊢
    obtain ⟨p,q,h1,h2,rfl⟩:=h
    simp only [List.all_cons,Bool.and_eq_true,decide_eq_true_eq] at hr
    refine ⟨p,q,?_,b05 hl hb ts vs ds q hr.2 (fun x hx=>hlt x (by simp [hx])) (fun x hx=>hs x (by simp [hx])) h2,rfl⟩
    exact WideElems.Trod_stays hl hr.1.1 hr.1.2 h1 (fun x hx=>hb.same (hlt x (by simp [hx]))) (fun x hx=>hs x (by simp [hx]))
theorem d2m {P:Program} (hl:laidOutB P = true) {f:Func} {s:ChangeSpec} (hvs:s.vars = []) {n:Nat} (hn:f.params.toList.length = n)
 (hs:∀ ds:List (DataW H),ds.length = n → (s.fn H ds).results = [.lit (.bool true)] ∧ (s.fn H ds).args = ds ∧ (s.fn H ds).vars = []) {tb:TypeId} (hres:f.resultTypes = #[tb]) (htb:P.underlying tb = some .bool)
 (hpar:(f.params.toList.all fun t=>P.readableRec t && decide (t < P.types.size)) = true)
 {W W':World} {args:Array Value} {ds gs:List (DataW H)} {before:List MemPlace} (hW:DataW.Whole enc P f.params.toList s.vars false W args.toList ds gs before) (hb:Below W.heap.size W W') :
 s.post enc P f false true false false W args (.bool true) W':=by
 have hlt:∀ p ∈ before,p.block < W.heap.size:=fun p hp=>hW.lt p hp
 have hold:∀ p ∈ before,(fun b=>decide (b < W.heap.size)) p.block = true:=fun p hp=>by simpa using hlt p hp
 have hW0:=hW
 obtain ⟨p,q,hA,hV,rfl,hz,hnd⟩:=hW
 rw [hvs] at hV
 obtain ⟨rfl,rfl⟩:=trodVars_none hV
 have hlen:ds.length = n:=by
  have:∀ (ts:List TypeId) (vs:List Value) (ds:List (DataW H)) (ps:List MemPlace),DataW.TrodAll enc P W 0 (fun _=>true) true ts vs ds ps → ds.length = ts.length:=by
   intro ts
   induction ts with
   | nil=>intro vs ds ps h;cases vs<;>cases ds<;>simp [DataW.TrodAll] at h<;>rfl
   | cons t ts ih=>
    intro vs ds ps h
    cases vs with
    | nil=>simp [DataW.TrodAll] at h
    | cons v vs=>cases ds with
     | nil=>simp [DataW.TrodAll] at h
     | cons d ds=>
      simp only [DataW.TrodAll] at h
      obtain ⟨p,q,_,h2,_⟩:=h
      simp [ih vs ds q h2]
  rw [this _ _ _ _ hA,hn]
 obtain ⟨s1,s2,s3⟩:=hs (ds ++ []) (by simpa using hlen)
 rw [List.append_nil] at hlt hold
 have hargs:∀ sp:Nat → Bool,(∀ x ∈ p,sp x.block = true) → DataW.TrodAll enc P W' 0 sp true f.params.toList args.toList (s.fn H (ds ++ [])).args p:=by
  intro sp hsp
  rw [s2,List.append_nil]
  exact b05 hl hb _ _ _ _ hpar hlt hsp hA
 have hvars:∀ sp:Nat → Bool,DataW.TrodVars enc P W' sp s.vars (s.fn H (ds ++ [])).vars []:=by
  intro sp
  rw [s3,hvs]
  rfl
 have hr1:∀ (b:Nat) (sp:Nat → Bool) (hd:Bool),DataW.TrodAll enc P W' b sp hd f.resultTypes.toList ((Value.bool true).resultList f.resultTypes.size) (s.fn H (ds ++ [])).results []:=by
  intro b sp hd
  rw [s1,hres]
  exact ⟨[],[],⟨1,by simp [DataW.trod,htb,Value.cells]⟩,rfl,rfl⟩
 refine ⟨ds,[],p ++ [],[],p,[],hW0,hr1 _ _ _,hargs _ hold,hvars _,World.keptBut_mono (fun x hx=>⟨hx,?_⟩) (hb.frame (·∈ p ++ [])),fun _=>?_⟩
 ·simpa using hx
 ·refine ⟨?_,_,_,([] ++ p) ++ [],⟨[] ++ p,[],trodAll_append (hargs _ (fun _ _=>rfl)) (hr1 _ _ _),hvars _,rfl,?_,?_⟩,?_⟩
  ·intro j t r hj hv
   rw [hres] at hj hv
   match j,hj,hv with
   | 0,hj,hv=>
    simp [Value.resultList] at hj hv
    subst hj;subst hv
    exact okWide_bool_mk htb true
  ·intro b off hp
   have hin:MemPlace.cell b off ∈ p:=by simpa using hp
   rw [hb.frozen (hlt _ hin)]
   exact hz b off (by simpa using hin)
  ·intro ha;cases ha
  ·intro x hx _
   simpa using hx
theorem law_contract (ok:EnvOk E) (hl:laidOutB E.P = true) {f:FuncId} {fn:Func} {run:List AV → a03 → Option (AV × a03)} (hfy:f ≠ yId) (hf:b01 E f run) {m:Nat}
 (hread:(fn.params.toList.all (a4z E m)) = true) (hrun:∀ args,TypAs E m fn.params.toList args → ∃ H',run args [] = some (.bool true,H'))
 {s:ChangeSpec} (hvs:s.vars = []) {n:Nat} (hn:fn.params.toList.length = n)
 (hs:∀ ds:List (DataW H),ds.length = n → (s.fn H ds).results = [.lit (.bool true)] ∧ (s.fn H ds).args = ds ∧ (s.fn H ds).vars = []) {tb:TypeId} (hres:fn.resultTypes = #[tb]) (htb:E.P.underlying tb = some .bool)
 (hpar:(fn.params.toList.all fun t=>E.P.readableRec t && decide (t < E.P.types.size)) = true)
 (W:World) (base:Nat) (args:Array Value) (ds gs:List (DataW H)) (before:List MemPlace)
 (hval:∀ (j:Nat) t v,fn.params[j]? = some t → args[j]? = some v → Value.okWide E.P W .any base t v)
 (hW:DataW.Whole enc E.P fn.params.toList s.vars false W args.toList ds gs before) (hG:Holds E W) :
 Calls E.P f args W fun e W'=>∃ v,e = .returned v ∧ s.post enc E.P fn false true false false W args v W':=by
 have hA:=hW
 obtain ⟨p,q,hA,_⟩:=hA
 obtain ⟨avs,h1,h2⟩:=d0b (b0:=base) ok (n:=m) fn.params.toList args.toList ds p hA (fun j t v ht hv=>hval j t v (by simpa using ht) (by simpa using hv)) hread
 obtain ⟨H',hr⟩:=hrun avs h2
 have:=d1g hfy hf hr hG h1
 rw [Array.toArray_toList] at this
 refine this.mono ?_
 rintro e W' ⟨rfl,hb⟩
 exact ⟨_,rfl,d2m hl hvs hn hs hres htb hpar hW hb⟩
end
end Go.Ax
/- AxSem: what a call comes to, a6n fuel for the calls: a function 'sem', closed under running a body over itself. No condition. -/
namespace Go.Ax
abbrev CallF:=FuncId → List AV → a03 → Option (AV × a03)
def CallF.le (c c':CallF):Prop:=∀ g a H r,c g a H = some r → c' g a H = some r
theorem a8t {r r':List AV → a03 → Option (AV × a03)} (h:∀ a H x,r a H = some x → r' a H = some x) {args:List AV} {H:a03} {x:AV × a03 × List Nat}
 (hc:a2z r args H = some x):a2z r' args H = some x:=by
 unfold a2z at hc ⊢
 simp only at hc ⊢
 rw [cond_eq_ite] at hc ⊢
 split at hc
 case isFalse=>cases hc
 rename_i h1
 rw [if_pos h1]
 split at hc
 case h_2=>cases hc
 rename_i v H1 hr
 rw [h _ _ _ hr]
 exact hc
theorem c05 {r r':List AV → a03 → Option (AV × a03)} (h:∀ a H x,r a H = some x → r' a H = some x) {args:List AV} {H:a03} {x:AV × a03 × List Nat}
 (hc:a8k r args H = some x):a8k r' args H = some x:=by
 unfold a8k at hc ⊢
 split at hc
 case h_2=>cases hc
 rename_i args' h1
 split at hc
 case h_2=>cases hc
 rename_i v H1 hr
 rw [h _ _ _ hr]
 exact hc
section
variable {E:Env} {draw:Bool} {N:Nat} {c c':CallF} (hc:CallF.le c c')
include hc
theorem c67 {f:AV} {args:List AV} {H:a03} {x:AV × a03 × List Nat} (h:a0g E draw c f args H = some x):a0g E draw c' f args H = some x:=by
 unfold a0g at h ⊢
 split at h
 case h_3=>cases h
 case h_2=>
  split at h
  case h_2=>cases h
  rename_i v H' σ hr
  rw [a8t (fun a H x=>hc yId a H x) hr]
  exact h
 rename_i g fs cs
 rw [cond_eq_ite] at h ⊢
 split at h
 ·rename_i h1
  rw [if_pos h1]
  rw [cond_eq_ite] at h ⊢
  split at h
  ·rename_i h2;rw [if_pos h2];exact c05 (fun a H x=>hc g a H x) h
  ·rename_i h2;rw [if_neg h2];exact h
 ·rename_i h1
  rw [if_neg h1]
  rw [cond_eq_ite] at h ⊢
  split at h
  case isFalse=>cases h
  rename_i h2
  rw [if_pos h2]
  split at h
  case h_2=>cases h
  rename_i v H' σ hr
  rw [a8t (fun a H x=>hc g a H x) hr]
  exact h
theorem c1p {F:Frm} {H:a03} {op:Op} {x:AV × a03 × LogE} (h:a0o E draw c F H op = some x):a0o E draw c' F H op = some x:=by
 unfold a0o at h ⊢
 split at h
 ·split at h
  case h_2=>cases h
  rename_i v H' σ hr
  rw [c67 hc hr]
  exact h
 ·exact h
theorem b3i {R:Type} {all:List Oper} {k k':Frm → a03 → Option R} (hk:∀ F H r,k F H = some r → k' F H = some r):∀ (ops:List Oper) (log:List LogE) (F:Frm) (H:a03) {r:R},
 a2f E draw N c all ops log F H k = some r → a2f E draw N c' all ops log F H k' = some r:=by
 intro ops
 induction ops with
 | nil=>
  intro log F H r h
  unfold a2f at h ⊢
  rw [cond_eq_ite] at h ⊢
  split at h
  case isFalse=>cases h
  rename_i h1
  rw [if_pos h1]
  exact hk _ _ _ h
 | cons o rest ih=>
  have step:∀ (log:List LogE) (F F':Frm) (H:a03) (op:Op) (r:R),(match a0o E draw c F H op with
   | some (v,H',l)=>a2f E draw N c all rest (l :: log) (a3l F' o.dst v) H' k
   | none=>none) = some r → (match a0o E draw c' F H op with
   | some (v,H',l)=>a2f E draw N c' all rest (l :: log) (a3l F' o.dst v) H' k'
   | none=>none) = some r:=by
   intro log F F' H op r h
   split at h
   case h_2=>cases h
   rename_i v H' l hs
   rw [c1p hc hs]
   exact ih _ _ _ h
  intro log F H r h
  unfold a2f at h ⊢
  rw [cond_eq_ite] at h ⊢
  split at h
  case isFalse=>cases h
  rename_i h1
  rw [if_pos h1]
  split at h
  ·exact step _ _ _ _ _ _ h
  ·rename_i j want hg
   split at h
   ·cases h
   ·rename_i d hd
    split at h
    ·rename_i b hb
     rw [cond_eq_ite] at h ⊢
     split at h
     ·rename_i hbt
      rw [if_pos hbt]
      rw [cond_eq_ite] at h ⊢
      split at h
      ·rename_i hw;rw [if_pos hw];exact step _ _ _ _ _ _ h
      ·rename_i hw;rw [if_neg hw];exact ih _ _ _ h
     ·rename_i hbt
      rw [if_neg hbt]
      rw [cond_eq_ite] at h ⊢
      split at h
      ·rename_i hw;rw [if_pos hw];exact ih _ _ _ h
      ·rename_i hw;rw [if_neg hw];exact step _ _ _ _ _ _ h
    ·exact ih _ _ _ h
    ·cases h
omit hc in
theorem b69 {m0:Nat} {keep:List Nat} {R:Type} {b b':Frm → a03 → (AExit → Frm → a03 → Option R) → Option R}
 (hb:∀ F H (k k':AExit → Frm → a03 → Option R),(∀ e F H r,k e F H = some r → k' e F H = some r) → ∀ r,b F H k = some r → b' F H k' = some r):∀ (n n':Nat),n ≤ n' → ∀ (F:Frm) (H:a03) (k k':AExit → Frm → a03 → Option R),(∀ e F H r,k e F H = some r → k' e F H = some r) → ∀ {r:R},
 b2m m0 keep b n F H k = some r → b2m m0 keep b' n' F H k' = some r
 | 0,_,_,F,H,k,k',_,r,h=>by simp [b2m] at h
 | n + 1,0,hn,F,H,k,k',_,r,h=>by omega
 | n + 1,n' + 1,hn,F,H,k,k',hk,r,h=>by
  unfold b2m at h ⊢
  simp only at h ⊢
  rw [cond_eq_ite] at h ⊢
  split at h
  case isFalse=>cases h
  rename_i h1
  rw [if_pos h1]
  refine hb _ _ _ _ ?_ r h
  intro e F H r h
  cases e with
  | normal=>exact b69 hb n n' (by omega) F H k k' hk h
  | exit id=>exact hk _ _ _ _ h
  | ret=>exact hk _ _ _ _ h
omit hc in
theorem b3l {m0 it:Nat} {keep:List Nat} {ks acc:List Int} {b b':Frm → a03 → (AExit → Frm → a03 → Option R3) → Option R3}
 (hb:∀ F H (k k':AExit → Frm → a03 → Option R3),(∀ e F H r,k e F H = some r → k' e F H = some r) → ∀ r,b F H k = some r → b' F H k' = some r) {a:Option Int} {F:Frm} {H:a03} {x:R3} (h:a9g m0 it keep ks acc b a F H = some x):a9g m0 it keep ks acc b' a F H = some x:=by
 unfold a9g at h ⊢
 split at h
 case h_2=>cases h
 rename_i F1 H1 hg
 split at h
 case h_2=>cases h
 rename_i H2 ha
 exact hb _ _ _ _ (fun _ _ _ _ h=>h) _ h
omit hc in
theorem b3t {m0 it:Nat} {keep:List Nat} {ks:List Int} {b b':Frm → a03 → (AExit → Frm → a03 → Option R3) → Option R3}
 (hb:∀ F H (k k':AExit → Frm → a03 → Option R3),(∀ e F H r,k e F H = some r → k' e F H = some r) → ∀ r,b F H k = some r → b' F H k' = some r):∀ {o acc:List Int} {F:Frm} {H:a03} {x:R3},a3j m0 it keep ks b acc o F H = some x → a3j m0 it keep ks b' acc o F H = some x
 | [],acc,F,H,x,h=>by
  unfold a3j at h ⊢
  split at h
  ·cases h
  ·rename_i e F' H' hne hr
   rw [b3l hb hr]
   cases e with
   | normal=>exact (hne rfl).elim
   | exit id=>exact h
   | ret=>exact h
  ·cases h
 | i :: o,acc,F,H,x,h=>by
  unfold a3j at h ⊢
  split at h
  case h_2=>cases h
  rename_i F' H' hr
  rw [b3l hb hr]
  exact b3t hb h
omit hc in
theorem c5d {m0 it:Nat} {keep:List Nat} {R:Type} {b b':Frm → a03 → (AExit → Frm → a03 → Option R3) → Option R3}
 (hb:∀ F H (k k':AExit → Frm → a03 → Option R3),(∀ e F H r,k e F H = some r → k' e F H = some r) → ∀ r,b F H k = some r → b' F H k' = some r) {F:Frm} {H:a03} {k k':AExit → Frm → a03 → Option R} (hk:∀ e F H r,k e F H = some r → k' e F H = some r) {r:R}
 (h:b9x m0 it keep b F H k = some r):b9x m0 it keep b' F H k' = some r:=by
 unfold b9x at h ⊢
 split at h
 case h_2=>cases h
 rename_i ks hks
 split at h
 case h_2=>cases h
 rename_i r0 rs hmap
 rw [cond_eq_ite] at h
 split at h
 case isFalse=>cases h
 rename_i hall
 have hm:(a8e ks).map (fun o=>a3j m0 it keep ks b' [] o F H) = some r0 :: rs:=by
  rw [← hmap]
  refine List.map_congr_left fun o ho=>?_
  have hm:=List.mem_map_of_mem (f:=fun o=>a3j m0 it keep ks b [] o F H) ho
  rw [hmap] at hm
  have he:a3j m0 it keep ks b [] o F H = some r0:=by
   rcases List.mem_cons.1 hm with h|h
   ·exact h
   ·exact c3h (List.all_eq_true.1 hall _ h)
  rw [he];exact b3t hb he
 rw [hm]
 simp only [hall,cond_true]
 exact hk _ _ _ _ h
theorem b0u {m0 lf lf':Nat} (hl:lf ≤ lf') {keep:Nat → List Nat}:∀ (code:Code) {R:Type} (cur:Nat) (F:Frm) (H:a03) (k k':AExit → Frm → a03 → Option R),(∀ e F H r,k e F H = some r → k' e F H = some r) → ∀ {r:R},
 a3m E m0 N keep c lf cur code F H k = some r → a3m E m0 N keep c' lf' cur code F H k' = some r:=by
 intro code
 induction code with
 | skip=>intro R cur F H k k' hk r h;unfold a3m at h ⊢;exact hk _ _ _ _ h
 | label l=>intro R cur F H k k' hk r h;unfold a3m at h ⊢;exact hk _ _ _ _ h
 | exit id=>intro R cur F H k k' hk r h;unfold a3m at h ⊢;exact hk _ _ _ _ h
 | ret=>intro R cur F H k k' hk r h;unfold a3m at h ⊢;exact hk _ _ _ _ h
 | region id ops draw=>
  intro R cur F H k k' hk r h;unfold a3m at h ⊢
  cases hn:c6l ops.toList with
  | none=>rw [hn] at h;exact b3i hc (fun F H r h=>hk _ _ _ _ h) _ _ _ _ h
  | some x=>
   obtain ⟨it,nx,rest⟩:=x
   rw [hn] at h
   simp only [cond_eq_ite] at h ⊢
   split at h
   case isTrue=>cases h
   rename_i h1
   rw [if_neg h1]
   split at h
   case h_2=>cases h
   rename_i v H' hx
   exact b3i hc (fun F H r h=>hk _ _ _ _ h) _ _ _ _ h
 | seq x y ihx ihy=>
  intro R cur F H k k' hk r h;unfold a3m at h ⊢
  refine ihx _ _ _ _ _ ?_ h
  intro e F H r h
  cases e with
  | normal=>exact ihy _ _ _ _ _ hk h
  | exit id=>exact hk _ _ _ _ h
  | ret=>exact hk _ _ _ _ h
 | cond x y z ihy ihz=>
  intro R cur F H k k' hk r h;unfold a3m at h ⊢
  split at h
  case h_2=>cases h
  rename_i t ht
  simp only [cond_eq_ite] at h ⊢
  split at h
  ·rename_i h1;rw [if_pos h1];exact ihy _ _ _ _ _ hk h
  ·rename_i h1;rw [if_neg h1];exact ihz _ _ _ _ _ hk h
 | block id b ih=>
  intro R cur F H k k' hk r h;unfold a3m at h ⊢
  refine ih _ _ _ _ _ ?_ h
  intro e F H r h
  cases e with
  | normal=>exact hk _ _ _ _ h
  | exit id'=>
   simp only [cond_eq_ite] at h ⊢
   split at h
   ·rename_i h1;rw [if_pos h1];exact hk _ _ _ _ h
   ·rename_i h1;rw [if_neg h1];exact hk _ _ _ _ h
  | ret=>exact hk _ _ _ _ h
 | loop b ih=>
  intro R cur F H k k' hk r h;unfold a3m at h ⊢
  cases hn:a71 b with
  | some it=>rw [hn] at h;exact c5d (fun F H k k' hk r h=>ih _ F H k k' hk h) hk h
  | none=>
  rw [hn] at h
  dsimp only at h ⊢
  refine b69 (fun F H k k' hk r h=>ih _ F H k k' hk h) _ _ hl F H _ _ ?_ h
  intro e F H r h
  rw [cond_eq_ite] at h ⊢
  split at h
  ·rename_i h1;rw [if_pos h1];exact hk _ _ _ _ h
  ·rename_i h1;rw [if_neg h1];exact hk _ _ _ _ h
 | scope b ih=>intro R cur F H k k' hk r h;unfold a3m at h ⊢;exact ih _ _ _ _ _ hk h
 | rangeFunc f ps as b=>
  intro R cur F H k k' hk r h
  unfold a3m at h ⊢
  split at h
  case h_2=>cases h
  rename_i g fs cs y _ _
  rw [cond_eq_ite] at h ⊢
  split at h
  case isFalse=>cases h
  rename_i h1
  rw [if_pos h1]
  split at h
  case h_2=>cases h
  rename_i v H2 σ hr
  rw [a8t (fun a H x=>hc g a H x) hr]
  dsimp only
  split at h
  ·exact hk _ _ _ _ h
  ·exact hk _ _ _ _ h
  ·exact hk _ _ _ _ h
  ·cases h
 | _=>intro R cur F H k k' hk r h;simp [a3m] at h
theorem b7h {lf lf':Nat} (hl:lf ≤ lf') {args:List AV} {H:a03} {r:AV × a03} (h:a90 E c lf args H = some r):a90 E c' lf' args H = some r:=by
 unfold a90 at h ⊢
 split at h
 case h_2=>cases h
 rename_i b vs
 split at h
 case h_2=>cases h
 rename_i y F hb
 split at h
 case h_2=>cases h
 rename_i ri hri
 rw [cond_eq_ite] at h ⊢
 split at h
 case isFalse=>cases h
 rename_i h1
 rw [if_pos h1]
 refine b0u hc hl _ _ _ _ _ _ ?_ h
 intro e F H r h
 cases e with
 | normal=>
  dsimp only at h ⊢
  split at h
  case h_2=>cases h
  rename_i H1 hy
  exact b0u hc hl _ _ _ _ _ _ (fun _ _ _ _ h=>h) h
 | exit id=>exact h
 | ret=>exact h
theorem d0q {m0 lf lf':Nat} (hl:lf ≤ lf') {keep:Nat → List Nat}:∀ (code:Code) {R:Type} (cur:Nat) (F:Frm) (H:a03) (k k':AExit → Frm → a03 → Option R),(∀ e F H r,k e F H = some r → k' e F H = some r) → ∀ {r:R},
 d91 E m0 N keep c lf cur code F H k = some r → d91 E m0 N keep c' lf' cur code F H k' = some r:=by
 intro code
 induction code with
 | seq x y ihx ihy=>
  intro R cur F H k k' hk r h;unfold d91 at h ⊢
  refine ihx _ _ _ _ _ ?_ h
  intro e F H r h
  cases e with
  | normal=>exact ihy _ _ _ _ _ hk h
  | exit id=>exact hk _ _ _ _ h
  | ret=>exact hk _ _ _ _ h
 | _=>intro R cur F H k k' hk r h;exact b0u hc hl _ _ _ _ _ _ hk h
theorem b16 {lf lf':Nat} (hl:lf ≤ lf') {g:FuncId} {args:List AV} {H:a03} {r:AV × a03} (h:b17 E c lf g args H = some r):b17 E c' lf' g args H = some r:=by
 unfold b17 at h ⊢
 split at h
 ·exact h
 split at h
 ·skip
  rw [cond_eq_ite] at h ⊢
  split at h
  case isFalse=>cases h
  rename_i h1
  rw [if_pos h1]
  exact b7h hc hl h
 rename_i i hi
 rw [cond_eq_ite] at h ⊢
 split at h
 case isFalse=>cases h
 rename_i h1
 rw [if_pos h1]
 unfold e4m at h ⊢
 cases hz:E.zf g with
 | true=>
  rw [hz,cond_true] at h
  rw [cond_true]
  exact d0q hc hl _ _ _ _ _ _ (fun _ _ _ _ h=>h) h
 | false=>
  rw [hz,cond_false] at h
  rw [cond_false]
  exact b0u hc hl _ _ _ _ _ _ (fun _ _ _ _ h=>h) h
end
inductive Der (E:Env) (M:List Fact):FuncId → List AV → a03 → AV × a03 → Prop
 | run (g:FuncId) (args:List AV) (H:a03) (r:AV × a03) (c:CallF) (lf:Nat) (hc:∀ g a H r,c g a H = some r → Der E M g a H r)
  (hno:∀ x ∈ M,x.g ≠ g) (h:b17 E c lf g args H = some r):Der E M g args H r
 | fact (x:Fact) (hx:x ∈ M) (hfirst:∀ y ∈ M,y.g = x.g → y.args = x.args → y.v = x.v):Der E M x.g x.args [] (x.v,[])
open Classical in
noncomputable def e4e (c c':CallF):CallF:=fun g a H=>match c g a H with|some r=>some r|none=>c' g a H
theorem Der.one {E:Env} {M:List Fact} {g:FuncId} {args:List AV} {H:a03} {r r':AV × a03} (h:Der E M g args H r) (h':Der E M g args H r'):r = r':=by
 induction h generalizing r' with
 | run g args H r c lf hc hno h ih=>
  cases h' with
  | run _ _ _ _ c' lf' hc' hno' h'=>
   have l1:CallF.le c (e4e c c'):=by intro g a H r h;simp [e4e,h]
   have l2:CallF.le c' (e4e c c'):=by
    intro g a H r h
    unfold e4e
    cases hcc:c g a H with
    | none=>exact h
    | some s=>exact congrArg some (ih g a H s hcc (hc' g a H r h))
   have e1:=b16 l1 (Nat.le_max_left lf lf') h
   have e2:=b16 l2 (Nat.le_max_right lf lf') h'
   exact z9o (e1.symm.trans e2)
  | fact x hx=>exact absurd rfl (hno x hx)
 | fact x hx hf=>
  generalize hg:x.g = g at h'
  generalize ha:x.args = args at h'
  generalize hH:([]:a03) = H at h'
  cases h' with
  | run _ _ _ _ c' lf' hc' hno' h'=>exact absurd hg (hno' x hx)
  | fact y hy hf'=>rw [hf y hy hg.symm ha.symm]
theorem Der.ok {E:Env} (ok:EnvOk E) (hdr:DrOk E) {M:List Fact} (hM:∀ x ∈ M,d5w E x) {g:FuncId} {args:List AV} {H:a03} {r:AV × a03} (h:Der E M g args H r) :
 b01 E g (fun a H'=>open Classical in if a = args ∧ H' = H then some r else none):=by
 induction h with
 | run g args H r c lf hc hno h ih=>
  have hcall:a3v E c:=by
   intro g a H v H' hr
   have:=ih g a H (v,H') hr
   exact this a H v H' (by simp)
  intro a H' v H'' hr
  dsimp only at hr
  split at hr
  ·rename_i hh
   obtain ⟨rfl,rfl⟩:=hh
   cases hr
   exact d1q ok hdr hcall lf g a H' v H'' h
  ·cases hr
 | fact x hx hf=>
  intro a H' v H'' hr
  dsimp only at hr
  split at hr
  ·rename_i hh
   obtain ⟨rfl,rfl⟩:=hh
   cases hr
   intro I K ρ w cargs h1 h2 h3
   exact hM x hx I K ρ w cargs h1 h2 h3
  ·cases hr
open Classical in
noncomputable def sem (E:Env) (M:List Fact):CallF:=fun g args H=>if h:∃ r,Der E M g args H r then some h.choose else none
section
variable {E:Env} {M:List Fact}
theorem c1s {g:FuncId} {args:List AV} {H:a03} {r:AV × a03}:sem E M g args H = some r ↔ Der E M g args H r:=by
 unfold sem
 constructor
 ·intro h
  split at h
  ·rename_i hh;cases h;exact hh.choose_spec
  ·cases h
 ·intro h
  have hh:∃ r,Der E M g args H r:=⟨r,h⟩
  rw [dif_pos hh]
  exact congrArg some (Der.one hh.choose_spec h)
theorem c1r {g:FuncId} {args:List AV} {H:a03} {r:AV × a03} (hno:∀ x ∈ M,x.g ≠ g) (lf:Nat) (h:b17 E (sem E M) lf g args H = some r):sem E M g args H = some r:=
 c1s.2 (.run g args H r (sem E M) lf (fun _ _ _ _ h=>c1s.1 h) hno h)
theorem sem_ok (ok:EnvOk E) (hdr:DrOk E) (hM:∀ x ∈ M,d5w E x):a3v E (sem E M):=by
 intro g args H v H' h
 exact (Der.ok ok hdr hM (c1s.1 h)) args H v H' (by simp)
end
end Go.Ax
/- AxEv: runs of statements in direct style: what a statement comes to, for a43 loop fuel that is great enough. -/
namespace Go.Ax
def d58 {α β:Type} (x:Option α) (f:α → β) (d:β):β:=match x with|some a=>f a|none=>d
def a0h {α β:Type} (x:Option α) (f:α → Option β):Option β:=match x with|some a=>f a|none=>none
@[go_sem] theorem d9u {α β:Type} (a:α) (f:α → Option β):a0h (some a) f = f a:=by rfl
@[congr] theorem d76 {α β:Type} {x y:Option α} {f:α → Option β} (h:x = y):a0h x f = a0h y f:=by rw [h]
def a82 (E:Env) (draw:Bool) (N:Nat) (call:CallF) (all:List Oper):List Oper → List LogE → Frm → a03 → Option (Frm × a03 × List LogE)
 | [],log,F,H=>some (F,H,log)
 | o :: rest,log,F,H=>
  bif a79 N o.dst then
   match o.guard with
   | none=>a0h (a0o E draw call F H o.op) fun x=>a82 E draw N call all rest (x.2.2 :: log) (a3l F o.dst x.1) x.2.1
   | some (j,want)=>match a2t all j with
    | none=>none
    | some d=>match a2g F d with
     | .bool b=>bif b then
      (bif want then a0h (a0o E draw call (a3l F (some d) (.bool true)) H o.op) fun x=>a82 E draw N call all rest (x.2.2 :: log) (a3l (a3l F (some d) (.bool true)) o.dst x.1) x.2.1
      else a82 E draw N call all rest (⟨[],[]⟩ :: log) (a3l (a3l F (some d) (.bool true)) o.dst (.tuple [])) H)
      else
       (bif want then a82 E draw N call all rest (⟨[],[]⟩ :: log) (a3l (a3l F (some d) (.bool false)) o.dst (.tuple [])) H
       else a0h (a0o E draw call (a3l F (some d) (.bool false)) H o.op) fun x=>a82 E draw N call all rest (x.2.2 :: log) (a3l (a3l F (some d) (.bool false)) o.dst x.1) x.2.1)
     | .tuple []=>a82 E draw N call all rest (⟨[],[]⟩ :: log) (a3l F o.dst (.tuple [])) H
     | _=>none
  else none
theorem b3h {E:Env} {draw:Bool} {N:Nat} {call:CallF} {all:List Oper} {R:Type} {k:Frm → a03 → Option R}:∀ (ops:List Oper) (log:List LogE) (F:Frm) (H:a03),
 a2f E draw N call all ops log F H k = (match a82 E draw N call all ops log F H with|some (F',H',log')=>(bif !draw || logOk all log'.length log' then k F' H' else none)|none=>none):=by
 intro ops
 induction ops with
 | nil=>
  intro log F H
  rfl
 | cons o rest ih=>
  intro log F H
  have step:∀ (F1 F2:Frm),(match a0o E draw call F1 H o.op with
   | some (v,H',l)=>a2f E draw N call all rest (l :: log) (a3l F2 o.dst v) H' k
   | none=>none) = (match a0h (a0o E draw call F1 H o.op) fun x=>a82 E draw N call all rest (x.2.2 :: log) (a3l F2 o.dst x.1) x.2.1 with|some (F',H',log')=>(bif !draw || logOk all log'.length log' then k F' H' else none)|none=>none):=by
   intro F1 F2
   cases a0o E draw call F1 H o.op with
   | none=>rfl
   | some x=>exact ih _ _ _
  obtain ⟨dst,op,ty,pos,after,guard⟩:=o
  unfold a2f a82
  cases hd:a79 N dst with
  | false=>rfl
  | true=>
   cases guard with
   | none=>exact step F F
   | some g=>
    obtain ⟨j,want⟩:=g
    simp only [cond_true]
    cases hs:a2t all j with
    | none=>rfl
    | some d=>
     simp only
     cases hv:a2g F d with
     | bool b=>cases b<;>cases want<;>simp only [cond_true,cond_false]<;>first|exact step _ _|exact ih _ _ _
     | tuple vs=>cases vs with
      | nil=>exact ih _ _ _
      | cons a r=>rfl
     | _=>rfl
structure Cx where
 E:Env
 M:List Fact
 m0:Nat
 N:Nat
 keep:Nat → List Nat
 cur:Nat
def Ev (x:Cx) (c:Code) (F:Frm) (H:a03) (r:AExit × Frm × a03):Prop:=
 ∃ n0,∀ lf,n0 ≤ lf → ∀ (R:Type) (k:AExit → Frm → a03 → Option R),a3m x.E x.m0 x.N x.keep (sem x.E x.M) lf x.cur c F H k = k r.1 r.2.1 r.2.2
section
variable {x:Cx} {F F1:Frm} {H H1:a03} {r:AExit × Frm × a03}
theorem Ev.skip:Ev x .skip F H (.normal,F,H):=⟨0,fun _ _ _ _=>rfl⟩
theorem Ev.label {l}:Ev x (.label l) F H (.normal,F,H):=⟨0,fun _ _ _ _=>rfl⟩
theorem Ev.leave {id}:Ev x (.exit id) F H (.exit id,F,H):=⟨0,fun _ _ _ _=>rfl⟩
theorem Ev.ret:Ev x .ret F H (.ret,F,H):=⟨0,fun _ _ _ _=>rfl⟩
theorem d78 {E:Env} {draw:Bool} {N:Nat} {call:CallF} {all ops:List Oper} {log:List LogE} {F:Frm} {H:a03} {r:Frm × a03 × List LogE} (h:a82 E draw N call all ops log F H = some r):c6l ops = none:=by
 unfold c6l
 split
 ·rfl
 ·rename_i o rest
  split
  ·rename_i it nx h1 h2 h3
   obtain ⟨d,op,ty,pos,after,guard⟩:=o
   simp only at h1 h2 h3
   subst h1 h2 h3
   unfold a82 at h
   have hs:a0o E draw call F H (.next (.tmp it) false) = none:=by
    have:aop E H.length (a01 H) (.next (.tmp it) false) (opv E F) = none:=by
     show c18 (a01 H) (opv E F (.tmp it)) false = none
     unfold c18
     split<;>rfl
    unfold a0o
    simp only [this]
   rw [cond_eq_ite] at h
   split at h
   ·simp only [hs,a0h] at h;cases h
   ·cases h
  ·rfl
theorem Ev.region {id ops draw} {log:List LogE} (h:a82 x.E draw x.N (sem x.E x.M) ops.toList ops.toList [] F H = some (F1,H1,log)) (hl:(!draw || logOk ops.toList log.length log) = true):Ev x (.region id ops draw) F H (.normal,F1,H1):=
 ⟨0,fun _ _ R k=>by simp only [a3m,d78 h,b3h,h,hl,cond_true]⟩
theorem Ev.seq {a b} (h:Ev x a F H (.normal,F1,H1)) (h2:Ev x b F1 H1 r):Ev x (.seq a b) F H r:=by
 obtain ⟨n,h⟩:=h;obtain ⟨m,h2⟩:=h2
 exact ⟨max n m,fun lf hl R k=>by simp only [a3m];rw [h lf (by omega)];exact h2 lf (by omega) R k⟩
theorem Ev.seq_ret {a b} (h:Ev x a F H (.ret,F1,H1)):Ev x (.seq a b) F H (.ret,F1,H1):=by
 obtain ⟨n,h⟩:=h
 exact ⟨n,fun lf hl R k=>by simp only [a3m];rw [h lf hl]⟩
theorem Ev.seq_exit {a b id} (h:Ev x a F H (.exit id,F1,H1)):Ev x (.seq a b) F H (.exit id,F1,H1):=by
 obtain ⟨n,h⟩:=h
 exact ⟨n,fun lf hl R k=>by simp only [a3m];rw [h lf hl]⟩
theorem Ev.cond_t {c a b} (hc:opv x.E F c = .bool true) (h:Ev x a F H r):Ev x (.cond c a b) F H r:=by
 obtain ⟨n,h⟩:=h
 exact ⟨n,fun lf hl R k=>by simp only [a3m,hc,cond_true];exact h lf hl R k⟩
theorem Ev.cond_f {c a b} (hc:opv x.E F c = .bool false) (h:Ev x b F H r):Ev x (.cond c a b) F H r:=by
 obtain ⟨n,h⟩:=h
 exact ⟨n,fun lf hl R k=>by simp only [a3m,hc,cond_false];exact h lf hl R k⟩
theorem Ev.block {id b} (h:Ev { x with cur:=id } b F H (.normal,F1,H1)):Ev x (.block id b) F H (.normal,F1,H1):=by
 obtain ⟨n,h⟩:=h
 exact ⟨n,fun lf hl R k=>by simp only [a3m];rw [h lf hl]⟩
theorem Ev.block_ret {id b} (h:Ev { x with cur:=id } b F H (.ret,F1,H1)):Ev x (.block id b) F H (.ret,F1,H1):=by
 obtain ⟨n,h⟩:=h
 exact ⟨n,fun lf hl R k=>by simp only [a3m];rw [h lf hl]⟩
theorem Ev.block_exit {id b} (h:Ev { x with cur:=id } b F H (.exit id,F1,H1)):Ev x (.block id b) F H (.normal,F1,H1):=by
 obtain ⟨n,h⟩:=h
 exact ⟨n,fun lf hl R k=>by simp only [a3m];rw [h lf hl];simp⟩
theorem Ev.block_on {id id' b} (h:Ev { x with cur:=id } b F H (.exit id',F1,H1)) (hne:(id' == id) = false):Ev x (.block id b) F H (.exit id',F1,H1):=by
 obtain ⟨n,h⟩:=h
 exact ⟨n,fun lf hl R k=>by simp only [a3m];rw [h lf hl];simp only [hne,cond_false]⟩
theorem Ev.scope {b} (h:Ev x b F H r):Ev x (.scope b) F H r:=by
 obtain ⟨n,h⟩:=h
 exact ⟨n,fun lf hl R k=>by simp only [a3m];exact h lf hl R k⟩
def EvL (x:Cx) (b:Code) (F:Frm) (H:a03) (r:AExit × Frm × a03):Prop:=
 ∃ n0,∀ lf,n0 ≤ lf → ∀ n,n0 ≤ n → ∀ (R:Type) (k:AExit → Frm → a03 → Option R),
  b2m x.m0 (x.keep x.cur) (fun F H k=>a3m x.E x.m0 x.N x.keep (sem x.E x.M) lf x.cur b F H k) n F H k = k r.1 r.2.1 r.2.2
theorem Ev.loop {b} (hx:a71 b = none) (hz:d12 (x.keep x.cur) = false) (h:EvL x b F H r):Ev x (.loop b) F H r:=by
 obtain ⟨n,h⟩:=h
 exact ⟨n,fun lf hl R k=>by simp only [a3m,hx,hz,cond_false];exact h lf hl lf hl R k⟩
theorem Ev.loopZ {b} {e:AExit} (hx:a71 b = none) (hz:d12 (x.keep x.cur) = true) (h:EvL x b F H (e,F1,H1)):Ev x (.loop b) F H (e,c2k x.m0 H1 F1,c2j x.m0 H1):=by
 obtain ⟨n,h⟩:=h
 exact ⟨n,fun lf hl R k=>by simp only [a3m,hx,hz,cond_true];exact h lf hl lf hl R _⟩
theorem c94 {m0:Nat} {keep:List Nat} (hg:gcD m0 keep F H = some (F1,H1)) :
 (a56 (b1p m0 (a2e keep F) H) && (b1p m0 (a2e keep F) H).all (fun b=>Nat.ble m0 b) && Nat.ble m0 H.length) = true ∧ b92 (b8c m0 (b1p m0 (a2e keep F) H)) (a2e keep F) = F1 ∧ gcH m0 (b1p m0 (a2e keep F) H) H = H1:=by
 unfold gcD at hg
 simp only [cond_eq_ite] at hg
 split at hg
 case isFalse=>cases hg
 rename_i hc
 cases hg
 exact ⟨hc,rfl,rfl⟩
theorem EvL.leave {b:Code} {F2:Frm} {H2:a03} {e:AExit} (hg:gcD x.m0 (x.keep x.cur) F H = some (F1,H1)) (h:Ev x b F1 H1 (e,F2,H2)) (he:e ≠ .normal):EvL x b F H (e,F2,H2):=by
 obtain ⟨n0,h⟩:=h
 refine ⟨n0 + 1,fun lf hl n hn R k=>?_⟩
 obtain ⟨n,rfl⟩:∃ l,n = l + 1:=⟨n - 1,by omega⟩
 obtain ⟨h1,h2,h3⟩:=c94 hg
 simp only [b2m,h1,h2,h3,cond_true]
 rw [h lf (by omega)]
 cases e with
 | normal=>exact absurd rfl he
 | exit id=>rfl
 | ret=>rfl
theorem EvL.again {b:Code} {F2:Frm} {H2:a03} (hg:gcD x.m0 (x.keep x.cur) F H = some (F1,H1)) (h:Ev x b F1 H1 (.normal,F2,H2)) (h':EvL x b F2 H2 r):EvL x b F H r:=by
 obtain ⟨n0,h⟩:=h
 obtain ⟨m0,h'⟩:=h'
 refine ⟨max n0 m0 + 1,fun lf hl n hn R k=>?_⟩
 obtain ⟨n,rfl⟩:∃ l,n = l + 1:=⟨n - 1,by omega⟩
 obtain ⟨h1,h2,h3⟩:=c94 hg
 simp only [b2m,h1,h2,h3,cond_true]
 rw [h lf (by omega)]
 exact h' lf (by omega) n (by omega) R k
theorem c3d {E:Env} {M:List Fact} {g:FuncId} {args:List AV} {H:a03} {code:Code} {N:Nat} {results:List ResultVar} {e:AExit} {F':Frm} {H':a03} {vs:List AV} {v:AV} {H2:a03}
 (hfn:E.fn g = some ⟨code,N,results⟩) (hno:∀ y ∈ M,y.g ≠ g) (hN:Nat.ble args.length N = true) (h:Ev ⟨E,M,H.length,N,E.keep g,0⟩ code (a5e 0 args) H (e,F',H')) (he:∀ id,e ≠ .exit id)
 (hr:a13 E F' H' results = some vs) (hfin:a1j (E.thaw g) H.length (a5g vs) H' = some (v,H2)) (hp:E.prim g args = none) (hz:E.zf g = false):sem E M g args H = some (v,H2):=by
 obtain ⟨n,h⟩:=h
 refine c1r hno n ?_
 unfold b17
 have hph:c7n E g args H = none:=by
  unfold c7n
  cases H with
  | nil=>exact hp
  | cons a r=>rfl
 rw [hph,hfn]
 simp only
 rw [hN]
 simp only [cond_true]
 unfold e4m
 rw [hz]
 simp only [cond_false]
 refine (h n (Nat.le_refl _) _ _).trans ?_
 cases e with
 | exit id=>exact absurd rfl (he id)
 | normal=>simp only [hr];exact hfin
 | ret=>simp only [hr];exact hfin
end
end Go.Ax
/- AxSimp: the evaluator's steps as rewrite rules. -/
namespace Go.Ax
section
variable {E:Env} {draw:Bool} {N:Nat} {call:CallF} {all rest:List Oper} {log:List LogE} {F:Frm} {H:a03}
@[go_sem] theorem e43 (s:Nat) (v:AV) (r:Frm):a2g ((s,v) :: r) s = v:=by
 simp only [a2g,d0z,cond_eq_ite,beq_self_eq_true,if_true]
@[go_sem] theorem e1x {s t:Nat} (h:(s = t) = False) (v:AV) (r:Frm):a2g ((s,v) :: r) t = a2g r t:=by
 have:¬ s = t:=fun e=>h ▸ e
 simp only [a2g,d0z,cond_eq_ite,beq_iff_eq,if_neg this]
@[go_sem] theorem e0y (d:Nat) (v:AV):a3l F (some d) v = (d,v) :: F:=by rfl
@[go_sem] theorem e0z (v:AV):a3l F none v = F:=by rfl
@[go_sem] theorem e5r (t:Nat):opv E F (.tmp t) = a2g F t:=by rfl
@[go_sem] theorem e3q (f:Nat):opv E F (.func f) = .func (.func f) [] []:=by rfl
@[go_sem] theorem e3r (b:Bool):opv E F (.const (.bool b)) = .bool b:=by rfl
@[go_sem] theorem e5t (k:IntKind) (n:Int):opv E F (.const (.int k n)) = .int k n:=by rfl
@[go_sem] theorem d9s:opv E F (.const (.pointer none)) = .nilptr:=by rfl
@[go_sem] theorem d57:opv E F (.const (.slice none 0 0)) = .nilslice:=by rfl
@[go_sem] theorem d9t:opv E F (.const (.map none)) = .nilmap:=by rfl
@[go_sem] theorem d74:opv E F (.const .nilFunc) = .nilfunc:=by rfl
@[go_sem] theorem e5s (s:ByteArray):opv E F (.const (.string s)) = .str s.data.toList:=by rfl
@[go_sem] theorem e3a:a82 E draw N call all [] log F H = some (F,H,log):=by rfl
@[go_sem] theorem e05 (d:Nat):a79 N (some d) = decide (d < N):=by
 rw [a79,Bool.eq_iff_iff];simp [Nat.blt_eq]
@[go_sem] theorem e06:a79 N none = true:=by rfl
theorem d6q (dst:Option Nat) (op:Op) (ty:TypeId) (pos:String) (after:Array Edge) :
 a82 E draw N call all ({ dst:=dst,op:=op,type:=ty,pos:=pos,after:=after,guard:=none } :: rest) log F H =
  bif a79 N dst then a0h (a0o E draw call F H op) fun x=>a82 E draw N call all rest (x.2.2 :: log) (a3l F dst x.1) x.2.1 else none:=by
 rfl
def d4z (E:Env) (draw:Bool) (N:Nat) (call:CallF) (all:List Oper) (dst:Option Nat) (op:Op) (rest:List Oper) (log:List LogE) (F:Frm) (H:a03) (d:Nat) (want:Bool):AV → Option (Frm × a03 × List LogE)
 | .bool b=>bif b then
  (bif want then a0h (a0o E draw call (a3l F (some d) (.bool true)) H op) fun x=>a82 E draw N call all rest (x.2.2 :: log) (a3l (a3l F (some d) (.bool true)) dst x.1) x.2.1
  else a82 E draw N call all rest (⟨[],[]⟩ :: log) (a3l (a3l F (some d) (.bool true)) dst (.tuple [])) H)
  else
   (bif want then a82 E draw N call all rest (⟨[],[]⟩ :: log) (a3l (a3l F (some d) (.bool false)) dst (.tuple [])) H
   else a0h (a0o E draw call (a3l F (some d) (.bool false)) H op) fun x=>a82 E draw N call all rest (x.2.2 :: log) (a3l (a3l F (some d) (.bool false)) dst x.1) x.2.1)
 | .tuple []=>a82 E draw N call all rest (⟨[],[]⟩ :: log) (a3l F dst (.tuple [])) H
 | _=>none
theorem c51 (dst:Option Nat) (op:Op) (ty:TypeId) (pos:String) (after:Array Edge) (j:Nat) (want:Bool) :
 a82 E draw N call all ({ dst:=dst,op:=op,type:=ty,pos:=pos,after:=after,guard:=some (j,want) } :: rest) log F H =
  bif a79 N dst then a0h (a2t all j) fun d=>d4z E draw N call all dst op rest log F H d want (a2g F d) else none:=by
 unfold a82
 cases a79 N dst with
 | false=>rfl
 | true=>
  simp only [cond_true]
  cases a2t all j with
  | none=>rfl
  | some d=>
   simp only [a0h]
   unfold d4z
   rfl
section
variable {dst:Option Nat} {op:Op} {d:Nat}
theorem d6m:d4z E draw N call all dst op rest log F H d true (.bool true) = a0h (a0o E draw call ((d,.bool true) :: F) H op) fun x=>a82 E draw N call all rest (x.2.2 :: log) (a3l ((d,.bool true) :: F) dst x.1) x.2.1:=by rfl
theorem d6n:d4z E draw N call all dst op rest log F H d true (.bool false) = a82 E draw N call all rest (⟨[],[]⟩ :: log) (a3l ((d,.bool false) :: F) dst (.tuple [])) H:=by rfl
theorem d6o:d4z E draw N call all dst op rest log F H d false (.bool true) = a82 E draw N call all rest (⟨[],[]⟩ :: log) (a3l ((d,.bool true) :: F) dst (.tuple [])) H:=by rfl
theorem d6p:d4z E draw N call all dst op rest log F H d false (.bool false) = a0h (a0o E draw call ((d,.bool false) :: F) H op) fun x=>a82 E draw N call all rest (x.2.2 :: log) (a3l ((d,.bool false) :: F) dst x.1) x.2.1:=by rfl
end
attribute [go_sem] d6q c51 d6m d6n d6o d6p
@[congr] theorem d9m {dst:Option Nat} {op:Op} {d:Nat} {want:Bool} {v v':AV} (h:v = v'):d4z E draw N call all dst op rest log F H d want v = d4z E draw N call all dst op rest log F H d want v':=by rw [h]
/-! ### one operation -/
@[go_sem] theorem e5d (x:Operand):a0o E draw call F H (.move x) = some (opv E F x,H,⟨[],[]⟩):=by rfl
@[go_sem] theorem e0w (x:Operand):a0o E draw call F H (.assign x) = some (opv E F x,H,⟨[],[]⟩):=by rfl
theorem a1l {op:Op} {v:Option AV} (h:aop E H.length (a01 H) op (opv E F) = v.map (·,.none)) (hs:a0o E draw call F H op = match aop E H.length (a01 H) op (opv E F) with
 | some (v,e)=>bif e.fits H.length then some (v,b03 H e,⟨a81 op (opv E F),e.keys H.length⟩) else none
 | none=>none):a0o E draw call F H op = a0h v fun v=>some (v,H,⟨a81 op (opv E F),[]⟩):=by
 rw [hs,h];cases v<;>rfl
@[go_sem] theorem e7m (op:BinOp) (t:TypeId) (x y:Operand) (z):a0o E draw call F H (.binOp op t x y z) = a0h (a7c E op t (opv E F x) (opv E F y) (a4e x || a4e y)) fun v=>some (v,H,⟨[],[]⟩):=a1l rfl rfl
@[go_sem] theorem e9r (op:UnOp) (t:TypeId) (x:Operand):a0o E draw call F H (.unOp op t x) = a0h (aun op (opv E F x)) fun v=>some (v,H,⟨[],[]⟩):=a1l rfl rfl
@[go_sem] theorem e5f (s d:TypeId) (x:Operand):a0o E draw call F H (.convert s d x) = a0h (a67 E (a01 H) s d (opv E F x)) fun v=>some (v,H,⟨a0f (opv E F x),[]⟩):=a1l rfl rfl
@[go_sem] theorem e5e (t:TypeId) (x:Operand):a0o E draw call F H (.load t x) = a0h (a6a E (a01 H) t (opv E F x)) fun v=>some (v,H,⟨a0f (opv E F x),[]⟩):=a1l rfl rfl
@[go_sem] theorem e33 (t:TypeId) (x:Operand) (lo hi mx:Option Operand):a0o E draw call F H (.slice t x lo hi mx) = a0h (a3z E (a01 H) t (opv E F x) (lo.map (opv E F)) (hi.map (opv E F)) (mx.map (opv E F))) fun v=>some (v,H,⟨a0f (opv E F x),[]⟩):=a1l rfl rfl
@[go_sem] theorem d4x (t:TypeId) (x:Operand) (f:Nat):a0o E draw call F H (.fieldAddr t x f) = a0h (a5s E t (opv E F x) f) fun v=>some (v,H,⟨[],[]⟩):=a1l rfl rfl
@[go_sem] theorem d4w (t:TypeId) (x i:Operand):a0o E draw call F H (.indexAddr t x i) = a0h (a0u E (a01 H) t (opv E F x) (opv E F i)) fun v=>some (v,H,⟨a0f (opv E F x),[]⟩):=a1l rfl rfl
@[go_sem] theorem e36 (t:TypeId) (ps:Array (Nat × Operand)):a0o E draw call F H (.build t ps) = a0h (b73 E t (ps.toList.map fun p=>(p.1,opv E F p.2))) fun v=>some (v,H,⟨[],[]⟩):=a1l rfl rfl
@[go_sem] theorem e0u (t:TypeId) (x k:Operand) (o:Bool):a0o E draw call F H (.lookup t x k o) = a0h (oor (a30 E (a01 H) t (opv E F x) (opv E F k) o) (b0t E (a01 H) t (opv E F x) (opv E F k) o)) fun v=>some (v,H,⟨a0f (opv E F x),[]⟩):=a1l rfl rfl
@[go_sem] theorem d6b (fn:Fn) (first cap:Array Operand):a0o E draw call F H (.makeFunc fn first cap) = some (.func fn (first.toList.map (opv E F)) (cap.toList.map (opv E F)),H,⟨[],[]⟩):=by rfl
def c16 (c a b:AV):Option AV:=match c with|.bool t=>some (b5r t a b)|_=>none
@[go_sem] theorem e5c (c a b:Operand):a0o E draw call F H (.pick c a b) = a0h (c16 (opv E F c) (opv E F a) (opv E F b)) fun v=>some (v,H,⟨[],[]⟩):=by
 refine a1l ?_ rfl
 simp only [aop,c16]
 cases opv E F c<;>rfl
@[go_sem] theorem d8u (t a b:Bool):c16 (.bool t) (.bool a) (.bool b) = some (.bool (bif t then a else b)):=by rfl
@[go_sem] theorem d8t (a b:AV):c16 (.bool true) a b = some (b5r true a b):=by rfl
@[go_sem] theorem d5p (a b:AV):c16 (.bool false) a b = some (b5r false a b):=by rfl
theorem d8r (a b:AV):b5r true a b = a:=by unfold b5r;split<;>simp
theorem d8s (a b:AV):b5r false a b = b:=by unfold b5r;split<;>simp
attribute [go_sem] d8r d8s
def c17 (x:AV):Option AV:=match x with
 | .ptr b i o=>some (.ptr b i o)
 | .iptr cs=>some (.iptr cs)
 | .func (.func f) fs cs=>some (.func (.func f) fs cs)
 | _=>none
attribute [go_sem] c17
@[go_sem] theorem d69 (x:Operand):a0o E draw call F H (.nilCheck x) = a0h (c17 (opv E F x)) fun v=>some (v,H,⟨[],[]⟩):=by
 refine a1l ?_ rfl
 simp only [aop]
 generalize opv E F x = y
 cases y<;>try rfl
 rename_i fn _ _
 cases fn<;>rfl
def b8x (x:AV) (i:Nat):Option AV:=match x with|.tuple vs=>vs[i]?|_=>none
attribute [go_sem] b8x
@[go_sem] theorem d9k (t:Operand) (i:Nat):a0o E draw call F H (.extract t i) = a0h (b8x (opv E F t) i) fun v=>some (v,H,⟨[],[]⟩):=by
 refine a1l ?_ rfl
 simp only [aop,b8x]
 cases opv E F t with
 | tuple vs=>simp only;cases vs[i]?<;>rfl
 | _=>rfl
theorem a48 {op:Op} {v:Option (AV × Eff)} (h:aop E H.length (a01 H) op (opv E F) = v) (hs:a0o E draw call F H op = match aop E H.length (a01 H) op (opv E F) with
 | some (v,e)=>bif e.fits H.length then some (v,b03 H e,⟨a81 op (opv E F),e.keys H.length⟩) else none
 | none=>none) {n:List Nat} (hn:a81 op (opv E F) = n):a0o E draw call F H op = a0h v fun x=>bif x.2.fits H.length then some (x.1,b03 H x.2,⟨n,x.2.keys H.length⟩) else none:=by
 rw [hs,h];subst hn;cases v<;>rfl
@[go_sem] theorem e37 (t:TypeId):a0o E draw call F H (.alloc t) = a0h (d8w E H.length t) fun x=>bif x.2.fits H.length then some (x.1,b03 H x.2,⟨[],x.2.keys H.length⟩) else none:=a48 rfl rfl rfl
@[go_sem] theorem e7l (t:TypeId) (x:Operand):a0o E draw call F H (.box t x) = a0h (d98 H.length (opv E F x)) fun x=>bif x.2.fits H.length then some (x.1,b03 H x.2,⟨[],x.2.keys H.length⟩) else none:=a48 rfl rfl rfl
@[go_sem] theorem e32 (t:TypeId) (a x:Operand):a0o E draw call F H (.store t a x) = a0h (a7z E (a01 H) t (opv E F a) (opv E F x)) fun e=>bif e.fits H.length then some (.tuple [],b03 H e,⟨a0f (opv E F a),e.keys H.length⟩) else none:=by
 refine (a48 (v:=(a7z E (a01 H) t (opv E F a) (opv E F x)).map (.tuple [],·)) rfl rfl rfl).trans ?_
 cases a7z E (a01 H) t (opv E F a) (opv E F x)<;>rfl
@[go_sem] theorem d1l (t:TypeId) (n:Nat) (ps:Array (Nat × Operand)):a0o E draw call F H (.buildSlice t n ps) = a0h (a3b E H.length t n (ps.toList.map fun p=>(p.1,opv E F p.2))) fun x=>bif x.2.fits H.length then some (x.1,b03 H x.2,⟨[],x.2.keys H.length⟩) else none:=a48 rfl rfl rfl
@[go_sem] theorem d4v (t:TypeId) (l c:Operand):a0o E draw call F H (.makeSlice t l c) = a0h (a40 E H.length t (opv E F l) (opv E F c)) fun x=>bif x.2.fits H.length then some (x.1,b03 H x.2,⟨[],x.2.keys H.length⟩) else none:=a48 rfl rfl rfl
@[go_sem] theorem d9j (t:TypeId):a0o E draw call F H (.makeMap t none) = some (.map H.length,H ++ [some (b67 E t)],⟨[],[H.length]⟩):=by rfl
@[go_sem] theorem d4u (t:TypeId) (m k x:Operand):a0o E draw call F H (.mapUpdate t m k x) = a0h (oor (a1c E (a01 H) t (opv E F m) (opv E F k) (opv E F x)) (b0p E (a01 H) t (opv E F m) (opv E F k) (opv E F x))) fun e=>bif e.fits H.length then some (.tuple [],b03 H e,⟨a0f (opv E F m),e.keys H.length⟩) else none:=by
 refine (a48 (v:=(oor (a1c E (a01 H) t (opv E F m) (opv E F k) (opv E F x)) (b0p E (a01 H) t (opv E F m) (opv E F k) (opv E F x))).map (.tuple [],·)) rfl rfl rfl).trans ?_
 cases oor (a1c E (a01 H) t (opv E F m) (opv E F k) (opv E F x)) (b0p E (a01 H) t (opv E F m) (opv E F k) (opv E F x))<;>rfl
@[go_sem] theorem d6a (t:TypeId) (m k:Operand):a0o E draw call F H (.mapEntry t m k) = a0h (a4g E (a01 H) t (opv E F m) (opv E F k)) fun x=>bif x.2.fits H.length then some (x.1,b03 H x.2,⟨a0f (opv E F m),x.2.keys H.length⟩) else none:=a48 rfl rfl rfl
@[go_sem] theorem d1k (t:TypeId) (m s x:Operand):a0o E draw call F H (.entryStore t m s x) = a0h (a1w (a01 H) (opv E F m) (opv E F s) (opv E F x)) fun e=>bif e.fits H.length then some (.tuple [],b03 H e,⟨a0f (opv E F m),e.keys H.length⟩) else none:=by
 refine (a48 (v:=(a1w (a01 H) (opv E F m) (opv E F s) (opv E F x)).map (.tuple [],·)) rfl rfl rfl).trans ?_
 cases a1w (a01 H) (opv E F m) (opv E F s) (opv E F x)<;>rfl
@[go_sem] theorem e34 (t:TypeId) (x:Operand):a0o E draw call F H (.range t x) = a0h (oor (b2h E H.length t (opv E F x)) (b1z E H.length t (opv E F x))) fun x=>bif x.2.fits H.length then some (x.1,b03 H x.2,⟨[],x.2.keys H.length⟩) else none:=a48 rfl rfl rfl
@[go_sem] theorem e7j (x:Operand) (t:TypeId):a0o E draw call F H (.call { callee:=.builtin .len,args:=#[x],argTypes:=#[t] }) = a0h (c1e E (a01 H) t (opv E F x)) fun v=>some (v,H,⟨a0f (opv E F x),[]⟩):=by
 refine (a1l (v:=c1e E (a01 H) t (opv E F x)) rfl rfl).trans ?_
 simp [a81]
@[go_sem] theorem e7k (x:Operand) (t:TypeId):a0o E draw call F H (.call { callee:=.builtin .cap,args:=#[x],argTypes:=#[t] }) = a0h (d4d E t (opv E F x)) fun v=>some (v,H,⟨a0f (opv E F x),[]⟩):=by
 refine (a1l (v:=d4d E t (opv E F x)) rfl rfl).trans ?_
 simp [a81]
@[go_sem] theorem e7h (x:Operand) (xs:List Operand) (ts:Array TypeId):a0o E draw call F H (.call { callee:=.builtin .min,args:=⟨x :: xs⟩,argTypes:=ts }) = a0h (d5r (opv E F x) (xs.map (opv E F))) fun v=>some (v,H,⟨(x :: xs).flatMap fun x=>a0f (opv E F x),[]⟩):=
 a1l rfl rfl
@[go_sem] theorem e7i (x:Operand) (xs:List Operand) (ts:Array TypeId):a0o E draw call F H (.call { callee:=.builtin .max,args:=⟨x :: xs⟩,argTypes:=ts }) = a0h (d46 (opv E F x) (xs.map (opv E F))) fun v=>some (v,H,⟨(x :: xs).flatMap fun x=>a0f (opv E F x),[]⟩):=
 a1l rfl rfl
@[go_sem] theorem e0x (x y:Operand) (t u:TypeId):a0o E draw call F H (.call { callee:=.builtin .append,args:=#[x,y],argTypes:=#[t,u] }) = a0h (oor (a4i E (a01 H) H.length t u (opv E F x) (opv E F y)) (a3h E H.length t u (opv E F x) (opv E F y))) fun z=>bif z.2.fits H.length then some (z.1,b03 H z.2,⟨a0f (opv E F x) ++ a0f (opv E F y),z.2.keys H.length⟩) else none:=
 a48 rfl rfl (by simp [a81])
@[go_sem] theorem e0j {E:Env} {n:Nat} {t u:TypeId} {x:AV} {b off len:Nat} {cap:Option Nat}:a3h E n t u (.slice b off len cap) x = none:=by unfold a3h;rfl
@[go_sem] theorem d9b {E:Env} {n:Nat} {t u:TypeId} {b off len:Nat} {cap:Option Nat}:a3h E n t u .nilslice (.slice b off len cap) = none:=by unfold a3h;rfl
@[go_sem] theorem e3t {α:Type} (x:Option α):oor x none = x:=by cases x<;>rfl
@[go_sem] theorem e3s {α:Type} (x:α) (y:Option α):oor (some x) y = some x:=by rfl
@[go_sem] theorem d6r {g:FuncId} {fs cs:List AV} {H H':a03} {σ:List Nat}:a6d E (.func (.func g) fs cs) H H' σ = (E.ro g && σ.all fun b=>b13 (a01 H b) (a01 H' b)):=by rfl
@[go_sem] theorem e2b {α:Type} (b:Bool) (x:α):(bif b then x else x) = x:=by cases b<;>rfl
@[go_sem] theorem d9w (ro:Bool) (σ:List Nat) (n:Nat):b5m ro σ n n = bif ro then [] else σ:=by
 unfold b5m;rw [cond_eq_ite,if_pos (by rw [Nat.beq_eq])]
attribute [go_sem] List.range'_succ List.range'_zero
@[go_sem] theorem e5g (f:Operand) (args:Array Operand) (ts:Array TypeId):a0o E draw call F H (.call { callee:=.value f,args:=args,argTypes:=ts }) = a0h (a0g E draw call (opv E F f) (args.toList.map (opv E F)) H) fun x=>some (x.1,x.2.1,⟨x.2.2,b5m (a6d E (opv E F f) H x.2.1 x.2.2) x.2.2 H.length x.2.1.length⟩):=by
 simp only [a0o]
 cases a0g E draw call (opv E F f) (args.toList.map (opv E F)) H<;>rfl
end
/-! ### tables read by type -/
section
variable (E:Env)
def a7v (t:TypeId):Option Bool:=(E.und t).map a1z
def a6t (t:TypeId) (f:Nat):Option (Nat × TypeId):=match E.und t with|some (.struct fs)=>(fs[f]?).map fun d=>(d.offset,d.type)|_=>none
def d3x (t:TypeId):Bool:=match E.und t with
 | some (.struct fs)=>fs.toList.all (fun f=>(E.und f.type).isSome)
 | some (.array _ e)=>(E.und e).isSome
 | _=>false
def b7s (t:TypeId) (i:Nat):Option (Nat × Nat):=match E.und t with
 | some (.struct fs)=>(fs[i]?).map fun f=>(f.offset,E.sz f.type)
 | some (.array _ e)=>some (i * E.sz e,E.sz e)
 | _=>none
def isT (t:TypeId):Bool:=(E.und t).isSome
end
section
variable {E:Env} {h:FHeap}
def d70:Option Bool → List AV → Option AV
 | some true,cs=>some (.agg cs)
 | some false,cs=>cs.head?
 | none,_=>none
attribute [go_sem] d70 List.head?_cons
@[go_sem] theorem e1i (t:TypeId) (cs:List AV):a2h E t cs = bif decide (cs.length = E.sz t) then d70 (a7v E t) cs else none:=by
 unfold a2h a7v
 have e:(cs.length == E.sz t) = decide (cs.length = E.sz t):=by by_cases h:cs.length = E.sz t<;>simp [h]
 rw [e]
 cases E.und t with
 | none=>cases decide (cs.length = E.sz t)<;>rfl
 | some d=>cases decide (cs.length = E.sz t)<;>simp [d70]<;>cases a1z d<;>rfl
def fieldAt (E:Env) (p:AV) (o:Nat) (t:TypeId):Option AV:=
 bif decide (E.sz t ≠ 0) && isT E t then match p with
  | .ptr b i q=>some (.ptr b i (q + o))
  | .iptr cs=>some (.iptr (cs.drop o))
  | _=>none
 else none
attribute [go_sem] fieldAt
@[go_sem] theorem d5t (t:TypeId) (p:AV) (f:Nat):a5s E t p f = a0h (a6t E t f) fun x=>fieldAt E p x.1 x.2:=by
 unfold a5s a6t fieldAt isT
 cases E.und t with
 | none=>rfl
 | some d=>
  cases d<;>try rfl
  rename_i fs
  simp only
  cases fs[f]? with
  | none=>rfl
  | some fd=>
   by_cases h:E.sz fd.type = 0
   ·simp [h,a0h]
   ·have e:(E.sz fd.type == 0) = false:=beq_eq_false_iff_ne.2 h
    simp [h,e,a0h]
    rfl
@[go_sem] theorem e4p (t:TypeId) (parts:List (Nat × AV)):b73 E t parts = bif d3x E t then a0h (E.zero t) fun z=>a0h (b20 (b7s E t) z parts) fun cs=>some (.agg cs) else none:=by
 unfold b73 d3x b7s
 cases hz:E.zero t with
 | none=>
  simp only [a0h]
  cases E.und t with
  | none=>rfl
  | some d=>cases d<;>simp
 | some z=>
  cases hu:E.und t with
  | none=>rfl
  | some d=>
   cases d<;>try rfl
   ·simp only [a0h]
    split<;>simp_all<;>split<;>simp_all<;>rfl
   ·simp only [a0h]
    split<;>simp_all<;>split<;>simp_all<;>rfl
end
/-! ### values -/
section
variable {E:Env} {h:FHeap} {t:TypeId} {k:IntKind} {a b:Int} {p q:Bool} {c:Bool}
theorem ikb (k:IntKind):(k == k) = true:=by cases k<;>rfl
@[go_sem] theorem d4k:a7c E .add t (.int k a) (.int k b) c = some (.int k (k.wrap (a + b))):=by simp only [a7c,ikb,c1f,cond_true]
@[go_sem] theorem e4r:a7c E .sub t (.int k a) (.int k b) c = some (.int k (k.wrap (a - b))):=by simp only [a7c,ikb,c1f,cond_true]
@[go_sem] theorem e4u:a7c E .mul t (.int k a) (.int k b) c = some (.int k (k.wrap (a * b))):=by simp only [a7c,ikb,c1f,cond_true]
@[go_sem] theorem e4s (hb:(b = 0) = False):a7c E .quo t (.int k a) (.int k b) c = some (.int k (k.wrap (a.tdiv b))):=by
 have:(b == 0) = false:=by rw [beq_eq_false_iff_ne];exact fun e=>hb ▸ e
 simp only [a7c,ikb,c1f,cond_true,this,cond_false]
@[go_sem] theorem d4i (hb:(b = 0) = False):a7c E .rem t (.int k a) (.int k b) c = some (.int k (a.tmod b)):=by
 have:(b == 0) = false:=by rw [beq_eq_false_iff_ne];exact fun e=>hb ▸ e
 simp only [a7c,ikb,c1f,cond_true,this,cond_false]
def e69 (k:IntKind) (a b:Int):Int:=k.wrap (BitVec.ofInt k.bits a &&& BitVec.ofInt k.bits b).toNat
def e63 (k:IntKind) (a b:Int):Int:=k.wrap (BitVec.ofInt k.bits a ^^^ BitVec.ofInt k.bits b).toNat
def c2h (k:IntKind) (a b:Int):Int:=k.wrap (BitVec.ofInt k.bits a &&& ~~~ BitVec.ofInt k.bits b).toNat
def e64 (k:IntKind) (a b:Int):Int:=a.fdiv (2 ^ (min b.toNat k.bits))
@[go_sem] theorem d4j:a7c E .and t (.int k a) (.int k b) c = some (.int k (e69 k a b)):=by simp only [a7c,ikb,c1f,cond_true,e69]
@[go_sem] theorem e4q:a7c E .xor t (.int k a) (.int k b) c = some (.int k (e63 k a b)):=by simp only [a7c,ikb,c1f,cond_true,e63]
@[go_sem] theorem c35:a7c E .andNot t (.int k a) (.int k b) c = some (.int k (c2h k a b)):=by simp only [a7c,ikb,c1f,cond_true,c2h]
@[go_sem] theorem d4h {k':IntKind} (hb:(b < 0) = False):a7c E .shr t (.int k a) (.int k' b) c = some (.int k (e64 k a b)):=by
 have:decide (b < 0) = false:=by rw [decide_eq_false_iff_not];exact fun e=>hb ▸ e
 simp only [a7c,this,cond_false,e64]
theorem e9f (a b:Int):(a == b) = decide (a = b):=by
 by_cases h:a = b
 ·subst h;simp
 ·rw [beq_eq_false_iff_ne.2 h,decide_eq_false h]
@[go_sem] theorem e4z:a7c E .eql t (.int k a) (.int k b) c = some (.bool (decide (a = b))):=by simp only [a7c,ikb,c1f,cond_true,e9f]
@[go_sem] theorem e4t:a7c E .neq t (.int k a) (.int k b) c = some (.bool (!decide (a = b))):=by simp only [a7c,ikb,c1f,cond_true,bne,e9f]
@[go_sem] theorem e4v:a7c E .lss t (.int k a) (.int k b) c = some (.bool (decide (a < b))):=by simp only [a7c,ikb,c1f,cond_true]
@[go_sem] theorem e4w:a7c E .leq t (.int k a) (.int k b) c = some (.bool (decide (a ≤ b))):=by simp only [a7c,ikb,c1f,cond_true]
@[go_sem] theorem e4x:a7c E .gtr t (.int k a) (.int k b) c = some (.bool (decide (b < a))):=by simp only [a7c,ikb,c1f,cond_true]
@[go_sem] theorem e4y:a7c E .geq t (.int k a) (.int k b) c = some (.bool (decide (b ≤ a))):=by simp only [a7c,ikb,c1f,cond_true]
@[go_sem] theorem e71:aun .not (.bool p) = some (.bool (!p)):=by rfl
@[go_sem] theorem e0k (o:Option AObj) (r:a03):a01 (o :: r) 0 = o:=by simp [a01]
@[go_sem] theorem e0l (o:Option AObj) (r:a03) (n:Nat):a01 (o :: r) (n + 1) = a01 r n:=by simp [a01]
@[go_sem] theorem e2u (n:Nat):a01 [] n = none:=by rfl
def slT (E:Env) (t:TypeId):Option TypeId:=match E.und t with|some (.slice e)=>some e|_=>none
theorem a3r {e:TypeId}:slT E t = some e ↔ E.und t = some (.slice e):=by
 unfold slT
 constructor
 ·intro h;split at h
  ·rename_i heq;cases h;exact heq
  ·cases h
 ·intro h;rw [h]
def b0w:Option AObj → Option (Nat × List (List AV))
 | some (.row k rows)=>some (k,rows)
 | _=>none
attribute [go_sem] b0w
def rowAt (rows:List (List AV)) (i:Int):Option (List AV):=if 0 ≤ i then rows[i.toNat]? else none
@[go_sem] theorem c7b (rows:List (List AV)) (n:Nat):rowAt rows (n:Int) = rows[n]?:=by simp [rowAt]
theorem c7a {rows:List (List AV)} {i:Int} (h:0 ≤ i):rowAt rows i = rows[i.toNat]?:=by simp [rowAt,h]
def inR (i:Int) (n:Nat):Bool:=decide (0 ≤ i) && decide (i < n)
@[go_sem] theorem c2f (j n:Nat):inR (j:Int) n = decide (j < n):=by
 unfold inR
 rw [decide_eq_true (by omega:(0:Int) ≤ j),Bool.true_and]
 by_cases h:j < n
 ·rw [decide_eq_true h,decide_eq_true (by omega)]
 ·rw [decide_eq_false h,decide_eq_false (by omega)]
theorem b8v {i:Int} {n:Nat}:c6e (.int k i) n = bif inR i n then some i.toNat else none:=rfl
@[go_sem] theorem e0g {b o n:Nat} {cp:Option Nat} (hs:(slT E t).isSome = true):c1e E h t (.slice b o n cp) = some (.int .i64 n):=by
 obtain ⟨e,he⟩:=Option.isSome_iff_exists.1 hs
 simp only [c1e,a3r.1 he]
@[go_sem] theorem d8z {rows:List (List AV)} {cp:Option Nat} (hs:(slT E t).isSome = true):c1e E h t (.islice rows cp) = some (.int .i64 rows.length):=by
 obtain ⟨e,he⟩:=Option.isSome_iff_exists.1 hs
 simp only [c1e,a3r.1 he]
@[go_sem] theorem e4l (hs:(slT E t).isSome = true):c1e E h t .nilslice = some (.int .i64 0):=by
 obtain ⟨e,he⟩:=Option.isSome_iff_exists.1 hs
 simp only [c1e,a3r.1 he]
@[go_sem] theorem d95 {rows:List (List AV)} {c:Nat} (hs:(slT E t).isSome = true):d4d E t (.islice rows (some c)) = some (.int .i64 c):=by
 obtain ⟨e,he⟩:=Option.isSome_iff_exists.1 hs
 simp only [d4d,a3r.1 he]
@[go_sem] theorem e4o (hs:(slT E t).isSome = true):d4d E t .nilslice = some (.int .i64 0):=by
 obtain ⟨e,he⟩:=Option.isSome_iff_exists.1 hs
 simp only [d4d,a3r.1 he]
def b5o (E:Env) (e:Option TypeId) (r:Option (List AV)):Option AV:=match e,r with
 | some e,some r=>bif isT E e && decide (r.length = E.sz e) then some (.iptr r) else none
 | _,_=>none
attribute [go_sem] b5o
theorem c69 (a b:Nat):(a == b) = decide (a = b):=by
 by_cases h:a = b
 ·subst h;simp
 ·rw [beq_eq_false_iff_ne.2 h,decide_eq_false h]
@[go_sem] theorem b4k {rows:List (List AV)} {cp:Option Nat} {i:Int}:a0u E h t (.islice rows cp) (.int k i) = match slT E t with|some e=>b5o E (some e) (rowAt rows i)|none=>a0u E h t (.islice rows cp) (.int k i):=by
 cases hs:slT E t with
 | none=>rfl
 | some e=>
  have hu:=a3r.1 hs
  simp only [a0u,hu,b8v,inR,b5o,isT]
  by_cases h0:0 ≤ i
  ·rw [decide_eq_true h0,c7a h0]
   by_cases h1:i < rows.length
   ·rw [decide_eq_true h1]
    have:i.toNat < rows.length:=by omega
    simp only [z9e this,Bool.and_self,cond_true,c69]
    cases (E.und e).isSome<;>rfl
   ·rw [decide_eq_false h1]
    rw [List.getElem?_eq_none (by omega)]
    simp
  ·simp [h0,rowAt]
def e67 (E:Env) (e:Option TypeId) (ok:Bool) (r:Option (Nat × List (List AV))) (b j:Nat):Option AV:=match e,r with
 | some e,some r=>bif isT E e && ok && decide (r.1 = E.sz e) then some (.ptr b j 0) else none
 | _,_=>none
attribute [go_sem] e67 Int.toNat_natCast
@[go_sem] theorem e01 {b o n:Nat} {cp:Option Nat} {i:Int}:a0u E h t (.slice b o n cp) (.int k i) = match slT E t with|some e=>e67 E (some e) (inR i n) (b0w (h b)) b (o + i.toNat)|none=>a0u E h t (.slice b o n cp) (.int k i):=by
 cases hs:slT E t with
 | none=>rfl
 | some e=>
  have hu:=a3r.1 hs
  simp only [a0u,hu,b8v,e67,isT]
  cases hb:h b with
  | none=>cases inR i n<;>simp [b0w]
  | some o=>
   cases o<;>cases inR i n<;>simp [b0w,c69]
   cases (E.und e).isSome<;>simp
def c4f (E:Env) (t:TypeId):Option (Nat × TypeId):=match E.und t with|some (.array m e)=>some (m,e)|_=>none
theorem d41 {m:Nat} {e:TypeId}:c4f E t = some (m,e) → E.und t = some (.array m e):=by
 unfold c4f;intro h;split at h
 ·rename_i heq;cases h;exact heq
 ·cases h
def b6m (E:Env) (n:Nat) (e:TypeId) (p:AV) (j:Int):Option AV:=
 bif inR j n && isT E e then match p with
  | .ptr b i o=>some (.ptr b i (o + j.toNat * E.sz e))
  | .iptr cs=>some (.iptr (cs.drop (j.toNat * E.sz e)))
  | _=>none
 else none
@[go_sem] theorem e00 (n:Nat) (e:TypeId) (b i o:Nat) (j:Int):b6m E n e (.ptr b i o) j = bif inR j n && isT E e then some (.ptr b i (o + j.toNat * E.sz e)) else none:=by rfl
@[go_sem] theorem d7t (n:Nat) (e:TypeId) (cs:List AV) (j:Int):b6m E n e (.iptr cs) j = bif inR j n && isT E e then some (.iptr (cs.drop (j.toNat * E.sz e))) else none:=by rfl
theorem c3v {n:Nat} {e:TypeId} {p:AV} {j:Int} (hu:c4f E t = some (n,e)):a0u E h t p (.int k j) = b6m E n e p j:=by
 simp only [a0u,d41 hu,b8v,b6m,isT]
 cases inR j n with
 | false=>rfl
 | true=>
  simp only [cond_true,Bool.true_and]
  cases (E.und e).isSome<;>cases p<;>rfl
@[go_sem] theorem e42 {b i o:Nat} {j:Int}:a0u E h t (.ptr b i o) (.int k j) = match c4f E t with|some (n,e)=>b6m E n e (.ptr b i o) j|none=>a0u E h t (.ptr b i o) (.int k j):=by
 cases hu:c4f E t with
 | none=>rfl
 | some x=>exact c3v hu
@[go_sem] theorem e1u {cs:List AV} {j:Int}:a0u E h t (.iptr cs) (.int k j) = match c4f E t with|some (n,e)=>b6m E n e (.iptr cs) j|none=>a0u E h t (.iptr cs) (.int k j):=by
 cases hu:c4f E t with
 | none=>rfl
 | some x=>exact c3v hu
@[go_sem] theorem f0f (n:Nat):inR 0 n = decide (0 < n):=c2f 0 n
@[go_sem] theorem e58:Int.toNat 0 = 0:=by rfl
@[go_sem] theorem f0e (n:Nat):inR 1 n = decide (1 < n):=c2f 1 n
@[go_sem] theorem e57:Int.toNat 1 = 1:=by rfl
@[go_sem] theorem f0d (n:Nat):inR 2 n = decide (2 < n):=c2f 2 n
@[go_sem] theorem e56:Int.toNat 2 = 2:=by rfl
@[go_sem] theorem e0f {cs:List AV}:a6a E h t (.iptr cs) = a2h E t (cs.take (E.sz t)):=by rfl
@[go_sem] theorem e2q {b i o:Nat}:a6a E h t (.ptr b i o) = a0h (b0w (h b)) fun kr=>a0h (kr.2[i]?) fun r=>a2h E t ((r.drop o).take (E.sz t)):=by
 unfold a6a
 cases hb:h b with
 | none=>simp only [hb];rfl
 | some ob=>
  cases ob<;>simp only [hb,b0w,a0h]
  rename_i rows
  cases rows[i]?<;>rfl
@[go_sem] theorem e0a {b i o:Nat} {x:AV}:a7z E h t (.ptr b i o) x = a0h (b0w (h b)) fun kr=>a0h (kr.2[i]?) fun r=>
 bif decide (x.cells.length = E.sz t) && isT E t && Nat.ble (o + x.cells.length) r.length && x.cells.all AV.storable then some (.set b (.row kr.1 (kr.2.set i (splice r o x.cells)))) else none:=by
 unfold a7z
 cases hb:h b with
 | none=>simp only [hb];rfl
 | some ob=>
  cases ob<;>simp only [hb,b0w,a0h]
  rename_i rows
  cases rows[i]?<;>simp only [isT,c69]
@[go_sem] theorem e9g {n:Nat}:d8w E n t = a0h (E.zero t) fun z=>bif decide (0 < z.length) then some (.ptr n 0 0,.new (.row z.length [z])) else none:=by
 unfold d8w
 cases E.zero t with
 | none=>rfl
 | some z=>simp only [a0h];cases z<;>rfl
@[go_sem] theorem e9h {n:Nat} {x:AV}:d98 n x = bif !x.isJunk && decide (0 < x.cells.length) then some (.ptr n 0 0,.new (.row x.cells.length [x.cells])) else none:=by
 have e:Nat.blt 0 x.cells.length = decide (0 < x.cells.length):=by rw [Bool.eq_iff_iff];simp [Nat.blt_eq]
 cases x<;>simp only [d98,e,AV.isJunk,Bool.not_false,Bool.true_and,Bool.not_true,Bool.false_and,cond_false]
theorem d16 (a b:Nat):Nat.ble a b = decide (a ≤ b):=by rw [Bool.eq_iff_iff];simp [Nat.ble_eq]
theorem c68 (a b:Nat):Nat.blt a b = decide (a < b):=by rw [Bool.eq_iff_iff];simp [Nat.blt_eq]
attribute [go_sem] d16 c68
@[go_sem] theorem e38 (r:List AV) (o:Nat) (cs:List AV):splice r o cs = r.take o ++ cs ++ r.drop (o + cs.length):=by rfl
def d10 (E:Env) (e:TypeId) (l c:Int):Bool:=decide (0 ≤ l) && decide (l ≤ c) && decide (c ≤ 281474976710656) && decide ((E.bytes e:Int) * c ≤ 281474976710656)
@[go_sem] theorem d5s {n:Nat} {k':IntKind} {l c:Int}:a40 E n t (.int k l) (.int k' c) = a0h (slT E t) fun e=>a0h (E.zero e) fun z=>bif d10 E e l c && decide (0 < z.length) then
 some (AV.slice n 0 l.toNat (some c.toNat),Eff.new (.row z.length (List.replicate c.toNat z))) else none:=by
 cases hs:slT E t with
 | none=>
  unfold a40
  unfold slT at hs
  cases hu:E.und t with
  | none=>rfl
  | some d=>cases d<;>first|rfl|(rw [hu] at hs;cases hs)
 | some e=>
  have hu:=a3r.1 hs
  simp only [a40,hu,a0h,d10,c68]
  cases E.zero e<;>rfl
theorem a97 {e:TypeId} {m:Nat} (h:m ≤ 1000000000) (hb:E.bytes e ≤ 1000):d10 E e (m:Int) (m:Int) = true:=by
 unfold d10
 have h1:E.bytes e * m ≤ 1000 * 1000000000:=Nat.mul_le_mul hb h
 have h2:((E.bytes e:Int) * (m:Int)) = ((E.bytes e * m:Nat):Int):=by simp
 rw [h2]
 simp only [Bool.and_eq_true,decide_eq_true_eq]
 omega
@[go_sem] theorem d4e {n m:Nat} {ps:List (Nat × AV)}:a3b E n t m ps = a0h (slT E t) fun e=>a0h (E.zero e) fun z=>bif decide (0 < z.length) && decide (m * z.length ≤ 16777216) then
 a0h (b5e z.length (List.replicate m z) ps) fun rows=>some (AV.slice n 0 m (some m),Eff.new (.row z.length rows)) else none:=by
 cases hs:slT E t with
 | none=>
  unfold a3b
  unfold slT at hs
  cases hu:E.und t with
  | none=>rfl
  | some d=>cases d<;>first|rfl|(rw [hu] at hs;cases hs)
 | some e=>
  have hu:=a3r.1 hs
  simp only [a3b,hu,a0h]
  cases E.zero e with
  | none=>rfl
  | some z=>
   simp only [c68,d16]
   cases decide (0 < z.length) && decide (m * z.length ≤ 16777216) with
   | false=>rfl
   | true=>simp only [cond_true];cases b5e z.length (List.replicate m z) ps<;>rfl
@[go_sem] theorem e2m (m:Nat) (rows:List (List AV)):b5e m rows [] = some rows:=by rfl
@[go_sem] theorem e0d (m:Nat) (rows:List (List AV)) (i:Nat) (v:AV) (r:List (Nat × AV)):b5e m rows ((i,v) :: r) = bif !v.isJunk && decide (v.cells.length = m) && decide (i < rows.length) then b5e m (rows.set i v.cells) r else none:=by
 simp only [b5e,c69,c68]
@[go_sem] theorem e2r (pl:Nat → Option (Nat × Nat)) (cs:List AV):b20 pl cs [] = some cs:=by rfl
@[go_sem] theorem e0h (pl:Nat → Option (Nat × Nat)) (cs:List AV) (i:Nat) (v:AV) (r:List (Nat × AV)):b20 pl cs ((i,v) :: r) = a0h (pl i) fun x=>bif !v.isJunk && decide (v.cells.length = x.2) && decide (x.1 + x.2 ≤ cs.length) then b20 pl (splice cs x.1 v.cells) r else none:=by
 simp only [b20]
 cases pl i with
 | none=>rfl
 | some x=>simp only [a0h,c69,d16]
@[go_sem] theorem e4d {H:a03} {o:AObj}:b03 H (.new o) = H ++ [some o]:=by rfl
@[go_sem] theorem e4c {H:a03} {b:Nat} {o:AObj}:b03 H (.set b o) = H.set b (some o):=by rfl
@[go_sem] theorem e28 {H:a03} {b:Nat} {o:AObj}:b03 H (.kill b o) = H.set b none ++ [some o]:=by rfl
@[go_sem] theorem e4a {n:Nat} {o:AObj}:Eff.fits n (.new o) = true:=by rfl
@[go_sem] theorem e49 {n b:Nat} {o:AObj}:Eff.fits n (.set b o) = decide (b < n):=c68 b n
@[go_sem] theorem e22 {n b:Nat} {o:AObj}:Eff.fits n (.kill b o) = decide (b < n):=c68 b n
attribute [go_sem] List.all_cons List.all_nil List.set_cons_zero List.set_cons_succ List.set_nil List.replicate_zero
end
@[go_sem] theorem e09 (b:Bool):AV.cells (.bool b) = [(AV.bool b)]:=by rfl
@[go_sem] theorem d1j (b:Bool):AV.storable (.bool b) = true:=by rfl
@[go_sem] theorem e2g (k:IntKind) (n:Int):AV.cells (.int k n) = [(AV.int k n)]:=by rfl
@[go_sem] theorem d4t (k:IntKind) (n:Int):AV.storable (.int k n) = true:=by rfl
@[go_sem] theorem e3z (k:IntKind) (n:Int):AV.isJunk (.int k n) = false:=by rfl
@[go_sem] theorem d9i (k:IntKind) (n:Int):a0f (.int k n) = []:=by rfl
@[go_sem] theorem e2e (s:List UInt8):AV.cells (.str s) = [(AV.str s)]:=by rfl
@[go_sem] theorem d4s (s:List UInt8):AV.storable (.str s) = true:=by rfl
@[go_sem] theorem e3x (s:List UInt8):AV.isJunk (.str s) = false:=by rfl
@[go_sem] theorem d15  : AV.cells .nilslice = [AV.nilslice]:=by rfl
@[go_sem] theorem c4s  : AV.storable .nilslice = true:=by rfl
@[go_sem] theorem d2o  : AV.isJunk .nilslice = false:=by rfl
@[go_sem] theorem c6v  : a0f .nilslice = []:=by rfl
@[go_sem] theorem d9g (b i o:Nat):a0f (.ptr b i o) = [b]:=by rfl
@[go_sem] theorem e08 (l:List AV):AV.cells (.iptr l) = [(AV.iptr l)]:=by rfl
@[go_sem] theorem e1r (l:List AV):AV.isJunk (.iptr l) = false:=by rfl
@[go_sem] theorem d66 (l:List AV):a0f (.iptr l) = []:=by rfl
@[go_sem] theorem d8k (b o n:Nat) (c:Option Nat):AV.cells (.slice b o n c) = [(AV.slice b o n c)]:=by rfl
@[go_sem] theorem d0y (b o n:Nat) (c:Option Nat):AV.storable (.slice b o n c) = true:=by rfl
@[go_sem] theorem d9y (b o n:Nat) (c:Option Nat):AV.isJunk (.slice b o n c) = false:=by rfl
@[go_sem] theorem d4q (b o n:Nat) (c:Option Nat):a0f (.slice b o n c) = [b]:=by rfl
@[go_sem] theorem d5l (r:List (List AV)) (c:Option Nat):AV.cells (.islice r c) = [(AV.islice r c)]:=by rfl
@[go_sem] theorem c70 (r:List (List AV)) (c:Option Nat):AV.storable (.islice r c) = true:=by rfl
@[go_sem] theorem d7p (r:List (List AV)) (c:Option Nat):AV.isJunk (.islice r c) = false:=by rfl
@[go_sem] theorem d1h (r:List (List AV)) (c:Option Nat):a0f (.islice r c) = []:=by rfl
@[go_sem] theorem e2f (b:Nat):AV.cells (.map b) = [(AV.map b)]:=by rfl
@[go_sem] theorem e3y (b:Nat):AV.isJunk (.map b) = false:=by rfl
@[go_sem] theorem d9h (b:Nat):a0f (.map b) = [b]:=by rfl
@[go_sem] theorem e2h (l:List AV):AV.cells (.agg l) = l:=by rfl
@[go_sem] theorem e40 (l:List AV):AV.isJunk (.agg l) = false:=by rfl
@[go_sem] theorem e3v (n:Nat) (o:AObj):Eff.keys n (.new o) = [n]:=by rfl
@[go_sem] theorem e3u (n b:Nat) (o:AObj):Eff.keys n (.set b o) = [b]:=by rfl
@[go_sem] theorem e1p (n b:Nat) (o:AObj):Eff.keys n (.kill b o) = [b,n]:=by rfl
@[go_sem] theorem f03:1 + 1 = 2:=by rfl
@[go_sem] theorem f02:2 + 1 = 3:=by rfl
@[go_sem] theorem f01:3 + 1 = 4:=by rfl
@[go_sem] theorem f00:4 + 1 = 5:=by rfl
@[go_sem] theorem e9z:5 + 1 = 6:=by rfl
@[go_sem] theorem e9y:6 + 1 = 7:=by rfl
@[go_sem] theorem e9x:7 + 1 = 8:=by rfl
@[go_sem] theorem e9w:8 + 1 = 9:=by rfl
@[go_sem] theorem e9v:9 + 1 = 10:=by rfl
@[go_sem] theorem e8b:10 + 1 = 11:=by rfl
@[go_sem] theorem e8a:11 + 1 = 12:=by rfl
@[go_sem] theorem e86:2 + 2 = 4:=by rfl
@[go_sem] theorem e85:2 + 3 = 5:=by rfl
@[go_sem] theorem e84:3 + 2 = 5:=by rfl
@[go_sem] theorem e83:3 + 3 = 6:=by rfl
@[go_sem] theorem e89:1 + 2 = 3:=by rfl
@[go_sem] theorem e88:1 + 3 = 4:=by rfl
@[go_sem] theorem e87:1 + 4 = 5:=by rfl
@[go_sem] theorem e3e {α:Type} (a:α):List.replicate 1 a = [a]:=by rfl
@[go_sem] theorem e3d {α:Type} (a:α):List.replicate 2 a = [a,a]:=by rfl
@[go_sem] theorem e3c {α:Type} (a:α):List.replicate 3 a = [a,a,a]:=by rfl
attribute [go_sem] List.map_cons List.map_nil List.append_nil List.nil_append List.cons_append List.length_cons List.length_nil a1z cond_true cond_false Option.map_some Option.map_none List.drop_zero List.drop_succ_cons List.take_succ_cons List.take_zero List.drop_nil List.take_nil List.getElem?_cons_zero List.getElem?_cons_succ List.getElem?_nil Nat.zero_add Nat.add_zero Nat.zero_mul Nat.mul_one decide_true decide_false Bool.and_true Bool.true_and Bool.and_false Bool.false_and Bool.or_true Bool.true_or Bool.or_false Bool.false_or Bool.not_true Bool.not_false Option.bind_some Option.isSome_some a2t decide_eq_true_eq
end Go.Ax
/- AxFlat: values that refer to no mutable block: renaming and freezing leave them; calls on them. -/
namespace Go.Ax
mutual
theorem a2m (π:Nat → Option Nat):∀ (v:AV),refs v = [] → ren π v = v
 | .ptr ..,h=>by simp [refs] at h
 | .slice ..,h=>by simp [refs] at h
 | .map ..,h=>by simp [refs] at h
 | .yfn ..,h=>by simp [refs] at h
 | .func fn fs cs,h=>by
  simp only [refs,List.append_eq_nil_iff] at h
  simp only [ren,a6y π fs h.1,a6y π cs h.2]
 | .iface t x,h=>by simp only [refs] at h;simp only [ren,a2m π x h]
 | .agg cs,h=>by simp only [refs] at h;simp only [ren,a6y π cs h]
 | .tuple cs,h=>by simp only [refs] at h;simp only [ren,a6y π cs h]
 | .junk,_|.bool _,_|.int ..,_|.str _,_|.nilptr,_|.nilslice,_|.nilmap,_|.nilfunc,_|.nilifc,_|.iptr _,_|.islice ..,_|.imap ..,_|.iset _,_=>rfl
theorem a6y (π:Nat → Option Nat):∀ (l:List AV),a0j l = [] → c1i π l = l
 | [],_=>rfl
 | v :: vs,h=>by
  simp only [a0j,List.append_eq_nil_iff] at h
  simp only [c1i,a2m π v h.1,a6y π vs h.2]
end
theorem a52 (π:Nat → Option Nat) {l:List AV} (h:a0j l = []):l.map (ren π) = l:=by rw [← a8d];exact a6y π l h
mutual
theorem a62 (m:Nat) (top:Bool) (d:AV → Option AV):∀ (v:AV),refs v = [] → a3f m top d v = some v
 | .ptr ..,h=>by simp [refs] at h
 | .slice ..,h=>by simp [refs] at h
 | .map ..,h=>by simp [refs] at h
 | .yfn ..,h=>by simp [refs] at h
 | .func fn fs cs,h=>by
  simp only [refs,List.append_eq_nil_iff] at h
  simp only [a3f,a65 m top d fs h.1,a65 m top d cs h.2]
 | .iface t x,h=>by simp only [refs] at h;simp only [a3f,a62 m top d x h]
 | .agg cs,h=>by simp only [refs] at h;simp only [a3f,a65 m top d cs h]
 | .tuple cs,h=>by simp only [refs] at h;simp only [a3f,a65 m top d cs h]
 | .junk,_|.bool _,_|.int ..,_|.str _,_|.nilptr,_|.nilslice,_|.nilmap,_|.nilfunc,_|.nilifc,_|.iptr _,_|.islice ..,_|.imap ..,_|.iset _,_=>rfl
theorem a65 (m:Nat) (top:Bool) (d:AV → Option AV):∀ (l:List AV),a0j l = [] → a5h m top d l = some l
 | [],_=>rfl
 | v :: vs,h=>by
  simp only [a0j,List.append_eq_nil_iff] at h
  simp only [a5h,a62 m top d v h.1,a65 m top d vs h.2]
end
def FlatR (rows:List (List AV)):Prop:=∀ r ∈ rows,a0j r = []
theorem FlatR.nil:FlatR []:=fun r h=>by simp at h
theorem FlatR.cons {r:List AV} {rows:List (List AV)} (h:a0j r = []) (hs:FlatR rows):FlatR (r :: rows):=by
 intro x hx;simp only [List.mem_cons] at hx;rcases hx with rfl|hx
 ·exact h
 ·exact hs x hx
theorem FlatR.append {a b:List (List AV)} (h:FlatR a) (k:FlatR b):FlatR (a ++ b):=by
 intro x hx;simp only [List.mem_append] at hx;exact hx.elim (h x) (k x)
theorem FlatR.map {α:Type} {f:α → List AV} {l:List α} (h:∀ x,a0j (f x) = []):FlatR (l.map f):=by
 intro x hx;simp only [List.mem_map] at hx;obtain ⟨y,_,rfl⟩:=hx;exact h y
theorem FlatR.replicate {n:Nat} {r:List AV} (h:a0j r = []):FlatR (List.replicate n r):=by
 intro x hx;rw [(List.mem_replicate.1 hx).2];exact h
theorem a0n {rows:List (List AV)} (h:FlatR rows):rows.flatMap a0j = []:=by
 rw [List.flatMap_eq_nil_iff];exact h
theorem a0m (π:Nat → Option Nat) {rows:List (List AV)} (h:FlatR rows):rows.map (fun r=>r.map (ren π)) = rows:=by
 conv=>rhs;rw [← List.map_id rows]
 exact List.map_congr_left fun r hr=>a52 π (h r hr)
theorem a1g (m:Nat) (d:AV → Option AV):∀ {rows:List (List AV)},FlatR rows → a9a m d rows = some rows
 | [],_=>rfl
 | r :: rs,h=>by
  simp only [a9a,a65 m false d r (h r (by simp)),a1g m d (rows:=rs) (fun x hx=>h x (by simp [hx]))]
/-! ### slices that are immutable, nil or not -/
def sl (c:Option (Option Nat)) (rows:List (List AV)):AV:=match c,rows with
 | none,[]=>.nilslice
 | none,r :: rs=>.islice (r :: rs) none
 | some c,rows=>.islice rows c
@[go_sem] theorem b0z (c:Option Nat) (rows:List (List AV)):sl (some c) rows = .islice rows c:=by cases rows<;>rfl
@[go_sem] theorem d6g:sl none [] = .nilslice:=by rfl
theorem c4v {rows:List (List AV)} (h:rows ≠ []):sl none rows = .islice rows none:=by cases rows with|nil=>exact absurd rfl h|cons=>rfl
@[go_sem] theorem a6o (c:Option (Option Nat)) (rows:List (List AV)):refs (sl c rows) = []:=by cases c<;>cases rows<;>rfl
@[go_sem] theorem b9l (π:Nat → Option Nat) (c:Option (Option Nat)) (rows:List (List AV)):ren π (sl c rows) = sl c rows:=a2m π _ (a6o c rows)
@[go_sem] theorem e0t (c:Option (Option Nat)) (rows:List (List AV)):a0f (sl c rows) = []:=by cases c<;>cases rows<;>rfl
@[go_sem] theorem e4g (c:Option (Option Nat)) (rows:List (List AV)):(sl c rows).cells = [sl c rows]:=by cases c<;>cases rows<;>rfl
@[go_sem] theorem d67 (c:Option (Option Nat)) (rows:List (List AV)):(sl c rows).storable = true:=by cases c<;>cases rows<;>rfl
@[go_sem] theorem e62 (c:Option (Option Nat)) (rows:List (List AV)):(sl c rows).isJunk = false:=by cases c<;>cases rows<;>rfl
section
variable {E:Env} {h:FHeap} {t e:TypeId} {c:Option (Option Nat)} {rows:List (List AV)} {k:IntKind}
@[go_sem] theorem e75 (hs:(slT E t).isSome = true):c1e E h t (sl c rows) = some (.int .i64 rows.length):=by
 obtain ⟨e,he⟩:=Option.isSome_iff_exists.1 hs
 have ht:=a3r.1 he
 cases c<;>cases rows<;>simp [sl,c1e,ht]
@[go_sem] theorem e68 {i:Int}:a0u E h t (sl c rows) (.int k i) = match slT E t with|some e=>b5o E (some e) (rowAt rows i)|none=>a0u E h t (sl c rows) (.int k i):=by
 cases c with
 | some c=>rw [b0z];exact b4k
 | none=>cases rows with
  | nil=>
   cases hs:slT E t with
   | none=>rfl
   | some e=>
    have hu:=a3r.1 hs
    simp only [sl,a0u,hu,b5o]
    cases h2:rowAt [] i with
    | none=>simp
    | some r=>unfold rowAt at h2;split at h2<;>simp at h2
  | cons a l=>exact b4k
end
/-! ### calls -/
@[go_sem] theorem e6w (a:AV):a5e 0 [a] = [(0,a)]:=by rfl
@[go_sem] theorem e6v (a b:AV):a5e 0 [a,b] = [(0,a),(1,b)]:=by rfl
@[go_sem] theorem e6u (a b c:AV):a5e 0 [a,b,c] = [(0,a),(1,b),(2,c)]:=by rfl
@[go_sem] theorem e6t (a b c d:AV):a5e 0 [a,b,c,d] = [(0,a),(1,b),(2,c),(3,d)]:=by rfl
theorem b3p (n:Nat) (H1:a03):∀ (b:Nat) (H:a03),a1f [] n H1 b H = H
 | _,[]=>rfl
 | b,o :: r=>by
  simp only [a1f,List.idxOf?_nil,b3p n H1 (b + 1) r]
theorem c0x {run:List AV → a03 → Option (AV × a03)} {args:List AV} {H:a03} {v:AV} (ha:a0j args = []) (h:run args [] = some (v,[])) (hv:refs v = []):a2z run args H = some (v,H,[]):=by
 unfold a2z
 have hr:a2n H a55 (a0j args) [] = []:=by rw [ha];rfl
 simp only [hr,a56,List.all_nil,Bool.and_self,cond_true,a52 _ ha,a5j,List.map_nil,h,a2m _ v hv,b3p,List.drop_nil,List.append_nil,List.length_nil]
theorem a04 {E:Env} {draw:Bool} {call:CallF} {g:FuncId} {fs cs ar args:List AV} {H:a03} {v:AV} (hx:E.ext g = false) (hf:(E.fn g).isSome = true) (he:fs ++ ar ++ cs = args) (ha:a0j args = []) (h:call g args [] = some (v,[])) (hv:refs v = []) :
 a0g E draw call (.func (.func g) fs cs) ar H = some (v,H,[]):=by
 simp only [a0g,hx,hf,he,cond_true,cond_false,c0x ha h hv]
 cases draw
 ·rfl
 ·simp only [Bool.true_and]
  rw [show Nat.ble H.length H.length = true by rw [Nat.ble_eq];exact Nat.le_refl _]
  rfl
@[go_sem] theorem d1x (k:IntKind) (n:Int):refs (.int k n) = []:=by rfl
@[go_sem] theorem e1a (b:Bool):refs (.bool b) = []:=by rfl
@[go_sem] theorem e3l (s:List UInt8):refs (.str s) = []:=by rfl
@[go_sem] theorem c1y (r:List (List AV)) (c:Option Nat):refs (.islice r c) = []:=by rfl
@[go_sem] theorem e18 (r:List AV):refs (.iptr r) = []:=by rfl
@[go_sem] theorem d1w:refs .nilslice = []:=by rfl
@[go_sem] theorem a1e (l:List AV):refs (.agg l) = a0j l:=by rfl
@[go_sem] theorem b19 (l:List AV):refs (.tuple l) = a0j l:=by rfl
@[go_sem] theorem e19 (f:Fn) (a b:List AV):refs (.func f a b) = a0j a ++ a0j b:=by rfl
@[go_sem] theorem e3m (b i o:Nat):refs (.ptr b i o) = [b]:=by rfl
@[go_sem] theorem b1a (b i o:Nat) (c:Option Nat):refs (.slice b i o c) = [b]:=by rfl
@[go_sem] theorem e3n (b:Nat):refs (.map b) = [b]:=by rfl
@[go_sem] theorem a54:a0j [] = []:=by rfl
@[go_sem] theorem a0a (v:AV) (l:List AV):a0j (v :: l) = refs v ++ a0j l:=by rfl
/-! ### what a loop's head keeps -/
/-! ### globals -/
def gV:Option (List AV) → AV|some cs=>.iptr cs|none=>.junk
@[go_sem] theorem e3p {E:Env} {F:Frm} (g:Nat):opv E F (.global g) = gV (E.G g):=by
 simp only [opv,gV];cases E.G g<;>rfl
@[go_sem] theorem e6b (cs:List AV):gV (some cs) = .iptr cs:=by rfl
end Go.Ax
/- AxBits: words of 64 bits; sums that fit. -/
namespace Go.Ax
def u64 (x:BitVec 64):AV:=.int .u64 (x.toNat:Int)
section
variable {E:Env} {t:TypeId} {c:Bool} {x y:BitVec 64} {k:IntKind}
theorem b96 (x:BitVec 64):IntKind.u64.wrap (x.toNat:Int) = x.toNat:=by
 have:=x.isLt
 exact IntWalk.u64_in _ ⟨by omega,by omega⟩
theorem b09 (x:BitVec 64):BitVec.ofInt 64 (x.toNat:Int) = x:=by
 apply BitVec.eq_of_toNat_eq
 simp
@[go_sem] theorem e74:a7c E .and t (u64 x) (u64 y) c = some (u64 (x &&& y)):=by
 have h1:=b09 x
 have h2:=b09 y
 simp only [u64,d4j,e69,IntKind.bits,h1,h2,b96]
 rfl
@[go_sem] theorem e0e:a7c E .andNot t (u64 x) (u64 y) c = some (u64 (x &&& ~~~y)):=by
 have h1:=b09 x
 have h2:=b09 y
 simp only [u64,c35,c2h,IntKind.bits,h1,h2,b96]
 rfl
theorem c6r (n:Int):IntKind.u64.wrap n = n % 18446744073709551616:=by
 simp [IntKind.wrap,IntKind.bits,IntKind.signed]
@[go_sem] theorem e78:a7c E .add t (u64 x) (u64 y) c = some (u64 (x + y)):=by
 simp only [u64,d4k,c6r,BitVec.toNat_add]
 congr 2
theorem d89 (m n:Nat) (h:m < 2 ^ 64):m / 2 ^ (min n 64) = m / 2 ^ n:=by
 by_cases hn:n ≤ 64
 ·rw [Nat.min_eq_left hn]
 ·rw [Nat.min_eq_right (by omega),Nat.div_eq_of_lt h,Nat.div_eq_of_lt (Nat.lt_of_lt_of_le h (Nat.pow_le_pow_right (by omega) (by omega)))]
@[go_sem] theorem d6i {k':IntKind} {b:Int} (hb:(b < 0) = False):a7c E .shr t (u64 x) (.int k' b) c = some (u64 (x >>> b.toNat)):=by
 have hx:=x.isLt
 simp only [u64,d4h hb,e64,IntKind.bits]
 congr 2
 rw [BitVec.toNat_ushiftRight,Nat.shiftRight_eq_div_pow,← d89 x.toNat b.toNat hx,Int.fdiv_eq_ediv_of_nonneg _ (Int.pow_nonneg (by decide)),Int.natCast_ediv,Int.natCast_pow]
 rfl
@[go_sem] theorem e39:a7c E .shr t (u64 x) (u64 y) c = some (u64 (x >>> y.toNat)):=by
 rw [show u64 y = .int .u64 (y.toNat:Int) from rfl,d6i (eq_false (by omega))]
 simp
theorem e0r {y:BitVec 64} (hy:(y = 0) = False):(((y.toNat:Int)) = 0) = False:=by
 apply eq_false
 intro h
 have:y = 0:=BitVec.eq_of_toNat_eq (by simpa using h)
 exact hy ▸ this
@[go_sem] theorem e5n (hy:(y = 0) = False):a7c E .rem t (u64 x) (u64 y) c = some (u64 (x % y)):=by
 simp only [u64,d4i (e0r hy),BitVec.toNat_umod]
 congr 2
@[go_sem] theorem e7c {n:Int} (h0:(0 ≤ n) = True) (h1:(n < 18446744073709551616) = True):AV.int .u64 n = u64 (BitVec.ofInt 64 n):=by
 have h0:0 ≤ n:=of_eq_true h0
 have h1:n < 18446744073709551616:=of_eq_true h1
 unfold u64
 congr 1
 rw [BitVec.toNat_ofInt]
 omega
@[go_sem] theorem e3k:refs (u64 x) = []:=by rfl
@[go_sem] theorem e2d:(u64 x).cells = [u64 x]:=by rfl
@[go_sem] theorem d4r:(u64 x).storable = true:=by rfl
@[go_sem] theorem e3w:(u64 x).isJunk = false:=by rfl
@[go_sem] theorem d9f:a0f (u64 x) = []:=by rfl
@[go_sem] theorem e5j (π:Nat → Option Nat):ren π (u64 x) = u64 x:=by rfl
def c5m (E:Env) (t:TypeId):Option IntKind:=match E.und t with|some (.int k)=>some k|_=>none
theorem c3q {k:IntKind}:c5m E t = some k → E.und t = some (.int k):=by
 unfold c5m;intro h;split at h
 ·rename_i heq;cases h;exact heq
 ·cases h
def cvI (k:IntKind) (n:Int):AV:=.int k (k.wrap n)
@[go_sem] theorem e70 (n:Int):cvI .i64 n = .int .i64 (IntKind.i64.wrap n):=by rfl
@[go_sem] theorem e9d (n:Int):cvI .u8 n = .int .u8 (IntKind.u8.wrap n):=by rfl
@[go_sem] theorem d3l {h:FHeap} {s d:TypeId} {k:IntKind} {n:Int} (hs:isT E s = true):a67 E h s d (.int k n) = match c5m E d with|some k'=>some (cvI k' n)|none=>a67 E h s d (.int k n):=by
 cases hd:c5m E d with
 | none=>rfl
 | some k'=>
  have hu:=c3q hd
  obtain ⟨ds,hds⟩:=Option.isSome_iff_exists.1 (show (E.und s).isSome = true from hs)
  simp only [a67,hu,hds]
  cases ds<;>simp [d4c,hu,hds,cvI]
@[go_sem] theorem e4f {h:FHeap} {s d:TypeId} (hs:isT E s = true):a67 E h s d (u64 x) = match c5m E d with|some k'=>some (cvI k' x.toNat)|none=>a67 E h s d (u64 x):=by
 unfold u64;exact d3l hs
theorem w64 {n:Int} (h1:-9223372036854775808 ≤ n) (h2:n ≤ 9223372036854775807):IntKind.i64.wrap n = n:=IntWalk.i64_in n ⟨h1,h2⟩
end
end Go.Ax
/- AxWp: what a statement comes to, by a condition on the end. -/
namespace Go.Ax
@[go_sem] theorem e1q (F:Frm):a2e [] F = []:=by rfl
@[go_sem] theorem d9x (s:Nat) (r:List Nat) (F:Frm):a2e (s :: r) F = (s,a2g F s) :: a2e r F:=by rfl
@[go_sem] theorem a9w {v:AV} {H:a03} (h:refs v = []):a1j false 0 v H = some (v,[]):=by
 simp only [a1j,a62 _ _ _ _ h,List.take_zero,List.map_nil,cond_false]
@[go_sem] theorem e1e (v:AV):a5g [v] = v:=by rfl
@[go_sem] theorem e1d (v w:AV) (l:List AV):a5g (v :: w :: l) = .tuple (v :: w :: l):=by rfl
@[go_sem] theorem e4j {E:Env} {F:Frm} {H:a03}:a13 E F H [] = some []:=by rfl
@[go_sem] theorem e4i {E:Env} {F:Frm} {H:a03} (t:Nat) (r:List ResultVar):a13 E F H (.tmp t :: r) = a0h (a13 E F H r) fun vs=>some (a2g F t :: vs):=by
 simp only [a13];cases a13 E F H r<;>rfl
@[go_sem] theorem e2o {E:Env} {F:Frm} {H:a03} (a t:Nat) (r:List ResultVar):a13 E F H (.cell a t :: r) = a0h (a6a E (a01 H) t (a2g F a)) fun v=>a0h (a13 E F H r) fun vs=>some (v :: vs):=by
 simp only [a13];cases a6a E (a01 H) t (a2g F a)<;>cases a13 E F H r<;>rfl
abbrev b04:=AExit → Frm → a03 → Prop
def bk (id:Nat) (Q:b04):b04:=fun e F H=>match e with|.exit i=>if i = id then Q .normal F H else Q (.exit i) F H|e=>Q e F H
def WpR:Code → Cx → Frm → a03 → b04 → Prop
 | .skip,_,F,H,Q=>Q .normal F H
 | .label _,_,F,H,Q=>Q .normal F H
 | .exit id,_,F,H,Q=>Q (.exit id) F H
 | .ret,_,F,H,Q=>Q .ret F H
 | .seq a b,x,F,H,Q=>WpR a x F H fun e F H=>match e with|.normal=>WpR b x F H Q|e=>Q e F H
 | .block id b,x,F,H,Q=>WpR b { x with cur:=id } F H (bk id Q)
 | .scope b,x,F,H,Q=>WpR b x F H Q
 | c,x,F,H,Q=>∃ e F' H',Ev x c F H (e,F',H') ∧ Q e F' H'
def Wp (x:Cx) (c:Code) (F:Frm) (H:a03) (Q:b04):Prop:=WpR c x F H Q
def sq (x:Cx) (b:Code) (Q:b04):b04:=fun e F H=>match e with|.normal=>Wp x b F H Q|e=>Q e F H
def cx (E:Env) (M:List Fact) (m N:Nat) (g:FuncId) (cur:Nat):Cx:=⟨E,M,m,N,E.keep g,cur⟩
def lp {σ:Type} (m:Nat) (keep:List Nat) (Fs:σ → Frm) (Hs:σ → a03) (meas:σ → Nat) (Inv:σ → Prop) (n:Nat) (Q:b04):b04:=
 fun e F H=>match e with|.normal=>∃ s,gcD m keep F H = some (Fs s,Hs s) ∧ meas s < n ∧ Inv s|e=>Q e F H
def fq (E:Env) (g:FuncId) (m:Nat) (results:List ResultVar) (r:AV × a03):b04:=
 fun e F H=>match e with|.exit _=>False|_=>∃ vs,a13 E F H results = some vs ∧ a1j (E.thaw g) m (a5g vs) H = some r
def lpJ (m:Nat) (keep:List Nat) (J:Nat → Frm → a03 → Prop) (n:Nat) (Q:b04):b04:=
 fun e F H=>match e with|.normal=>∃ F1 H1 n',gcD m keep F H = some (F1,H1) ∧ n' < n ∧ J n' F1 H1|e=>Q e F H
@[irreducible] def d5c:AV → Option Bool|.bool b=>some b|_=>none
@[go_sem] theorem e8c:d5c (.bool true) = some true:=by unfold d5c;rfl
@[go_sem] theorem e8d:d5c (.bool false) = some false:=by unfold d5c;rfl
theorem d7h {v:AV} {t:Bool} (h:d5c v = some t):v = .bool t:=by
 unfold d5c at h;split at h
 ·cases h;rfl
 ·cases h
def hs (E:Env) (M:List Fact) (N:Nat):Code → Frm → a03 → Frm → a03 → List LogE → Bool → Prop
 | .region id ops draw,F,H,F1,H1,log,t=>(a82 E draw N (sem E M) ops.toList ops.toList [] F H,true) = (some (F1,H1,log),t)
 | .cond c a b,F,H,F1,H1,log,t=>(d5c (opv E F c),F,H,[]) = (some t,F1,H1,log)
 | _,_,_,_,_,_,_=>False
def sd:Code → List LogE → Bool
 | .region id ops draw,log=>!draw || logOk ops.toList log.length log
 | _,_=>true
def ct (x:Cx):Code → Bool → Frm → a03 → b04 → Prop
 | .region id ops draw,t,F,H,Q=>Q .normal F H
 | .cond c a b,t,F,H,Q=>Wp x (bif t then a else b) F H Q
 | _,_,_,_,_=>False
@[go_sem] theorem f4i (E:Env) (M:List Fact) (N:Nat) (id ops draw F H F1 H1 log t):hs E M N (.region id ops draw) F H F1 H1 log t = ((a82 E draw N (sem E M) ops.toList ops.toList [] F H,true) = (some (F1,H1,log),t)):=by rfl
@[go_sem] theorem f4j (E:Env) (M:List Fact) (N:Nat) (c a b F H F1 H1 log t):hs E M N (.cond c a b) F H F1 H1 log t = ((d5c (opv E F c),F,H,[]) = (some t,F1,H1,log)):=by rfl
theorem wx:(∀ x id ops draw t F H Q,ct x (.region id ops draw) t F H Q = Q .normal F H) ∧ (∀ x c a b F H Q,ct x (.cond c a b) true F H Q = Wp x a F H Q) ∧ (∀ x c a b F H Q,ct x (.cond c a b) false F H Q = Wp x b F H Q):=
 ⟨fun _ _ _ _ _ _ _ _=>rfl,fun _ _ _ _ _ _ _=>rfl,fun _ _ _ _ _ _ _=>rfl⟩
theorem ww:(∀ x F H Q,Wp x .skip F H Q = Q .normal F H) ∧ (∀ x F H Q l,Wp x (.label l) F H Q = Q .normal F H) ∧ (∀ x F H Q i,Wp x (.exit i) F H Q = Q (.exit i) F H) ∧ (∀ x F H Q,Wp x .ret F H Q = Q .ret F H) ∧
 (∀ x a b F H Q,Wp x (.seq a b) F H Q = Wp x a F H (sq x b Q)) ∧ (∀ E M m N g cur i b F H Q,Wp (cx E M m N g cur) (.block i b) F H Q = Wp (cx E M m N g i) b F H (bk i Q)) ∧ (∀ x b F H Q,Wp x (.scope b) F H Q = Wp x b F H Q) ∧
 (∀ x b F H Q,sq x b Q .normal F H = Wp x b F H Q) ∧ (∀ x b F H Q i,sq x b Q (.exit i) F H = Q (.exit i) F H) ∧ (∀ x b F H Q,sq x b Q .ret F H = Q .ret F H) ∧
 (∀ i F H Q,bk i Q .normal F H = Q .normal F H) ∧ (∀ i F H Q,bk i Q .ret F H = Q .ret F H) ∧ (∀ i F H Q,bk i Q (.exit i) F H = Q .normal F H) ∧ (∀ i j F H Q,(j = i) = False → bk i Q (.exit j) F H = Q (.exit j) F H) ∧
 (∀ m keep J n Q i F H,lpJ m keep J n Q (.exit i) F H = Q (.exit i) F H) ∧ (∀ m keep J n Q F H,lpJ m keep J n Q .ret F H = Q .ret F H) ∧
 (∀ (σ:Type) m keep (Fs:σ → Frm) Hs meas Inv n Q i F H,lp m keep Fs Hs meas Inv n Q (.exit i) F H = Q (.exit i) F H) ∧ (∀ (σ:Type) m keep (Fs:σ → Frm) Hs meas Inv n Q F H,lp m keep Fs Hs meas Inv n Q .ret F H = Q .ret F H) ∧
 (∀ a b:Code,cond true a b = a) ∧ (∀ a b:Code,cond false a b = b) ∧
 (∀ x id ops draw t F H Q,ct x (.region id ops draw) t F H Q = Q .normal F H) ∧ (∀ x c a b F H Q,ct x (.cond c a b) true F H Q = Wp x a F H Q) ∧ (∀ x c a b F H Q,ct x (.cond c a b) false F H Q = Wp x b F H Q):=
 ⟨fun _ _ _ _=>rfl,fun _ _ _ _ _=>rfl,fun _ _ _ _ _=>rfl,fun _ _ _ _=>rfl,fun _ _ _ _ _ _=>rfl,fun _ _ _ _ _ _ _ _ _ _ _=>rfl,fun _ _ _ _ _=>rfl,fun _ _ _ _ _=>rfl,fun _ _ _ _ _ _=>rfl,fun _ _ _ _ _=>rfl,
  fun _ _ _ _=>rfl,fun _ _ _ _=>rfl,fun i F H Q=>by simp only [bk,if_pos],fun i j F H Q h=>by simp only [bk,h,if_false],fun _ _ _ _ _ _ _ _=>rfl,fun _ _ _ _ _ _ _=>rfl,fun _ _ _ _ _ _ _ _ _ _ _ _=>rfl,fun _ _ _ _ _ _ _ _ _ _ _=>rfl,fun _ _=>rfl,fun _ _=>rfl,wx⟩
theorem c4l:∀ (c:Code) {x:Cx} {F:Frm} {H:a03} {Q:b04},Wp x c F H Q → ∃ e F' H',Ev x c F H (e,F',H') ∧ Q e F' H':=by
 intro c
 induction c with
 | skip=>intro x F H Q h;exact ⟨_,_,_,Ev.skip,h⟩
 | label l=>intro x F H Q h;exact ⟨_,_,_,Ev.label,h⟩
 | exit i=>intro x F H Q h;exact ⟨_,_,_,Ev.leave,h⟩
 | ret=>intro x F H Q h;exact ⟨_,_,_,Ev.ret,h⟩
 | seq a b iha ihb=>
  intro x F H Q h
  obtain ⟨e,F',H',h1,h2⟩:=iha h
  cases e with
  | normal=>obtain ⟨e2,F2,H2,h3,h4⟩:=ihb h2;exact ⟨e2,F2,H2,Ev.seq h1 h3,h4⟩
  | exit id=>exact ⟨_,_,_,Ev.seq_exit h1,h2⟩
  | ret=>exact ⟨_,_,_,Ev.seq_ret h1,h2⟩
 | block id b ih=>
  intro x F H Q h
  obtain ⟨e,F',H',h1,h2⟩:=ih h
  cases e with
  | normal=>exact ⟨_,_,_,Ev.block h1,h2⟩
  | exit i=>
   by_cases hi:i = id
   ·subst hi;simp only [bk,if_pos] at h2;exact ⟨_,_,_,Ev.block_exit h1,h2⟩
   ·simp only [bk,if_neg hi] at h2;exact ⟨_,_,_,Ev.block_on h1 (by simpa using hi),h2⟩
  | ret=>exact ⟨_,_,_,Ev.block_ret h1,h2⟩
 | scope b ih=>
  intro x F H Q h
  obtain ⟨e,F',H',h1,h2⟩:=ih h;exact ⟨e,F',H',Ev.scope h1,h2⟩
 | _=>intro x F H Q h;exact h
theorem c6p:∀ {c:Code} {x:Cx} {F:Frm} {H:a03} {Q Q':b04},Wp x c F H Q → (∀ e F H,Q e F H → Q' e F H) → Wp x c F H Q':=by
 intro c
 induction c with
 | skip=>intro x F H Q Q' h hq;exact hq _ _ _ h
 | label l=>intro x F H Q Q' h hq;exact hq _ _ _ h
 | exit i=>intro x F H Q Q' h hq;exact hq _ _ _ h
 | ret=>intro x F H Q Q' h hq;exact hq _ _ _ h
 | seq a b iha ihb=>
  intro x F H Q Q' h hq
  refine iha (Q:=sq x b Q) (Q':=sq x b Q') h ?_
  intro e F H h
  cases e with
  | normal=>exact ihb (x:=x) h hq
  | exit id=>exact hq _ _ _ h
  | ret=>exact hq _ _ _ h
 | block id b ih=>
  intro x F H Q Q' h hq
  refine ih (Q:=bk id Q) (Q':=bk id Q') h ?_
  intro e F H h
  cases e with
  | normal=>exact hq _ _ _ h
  | exit i=>
   simp only [bk] at h ⊢
   split
   ·rename_i hi;rw [if_pos hi] at h;exact hq _ _ _ h
   ·rename_i hi;rw [if_neg hi] at h;exact hq _ _ _ h
  | ret=>exact hq _ _ _ h
 | scope b ih=>intro x F H Q Q' h hq;exact ih (x:=x) h hq
 | _=>intro x F H Q Q' h hq;obtain ⟨e,F',H',h1,h2⟩:=h;exact ⟨e,F',H',h1,hq _ _ _ h2⟩
section
variable {x:Cx} {F F1:Frm} {H H1:a03} {Q:b04}
theorem xs {E:Env} {M:List Fact} {m N:Nat} {g:FuncId} {cur:Nat} {id ops draw} {log:List LogE} (h:a82 E draw N (sem E M) ops.toList ops.toList [] F H = some (F1,H1,log)) (hl:(!draw || logOk ops.toList log.length log) = true) (hq:Q .normal F1 H1):Wp (cx E M m N g cur) (.region id ops draw) F H Q:=⟨_,_,_,Ev.region h hl,hq⟩
theorem xI {E:Env} {M:List Fact} {m N:Nat} {g:FuncId} {cur:Nat} {c a b t} (hc:opv E F c = .bool t) (h:Wp (cx E M m N g cur) (bif t then a else b) F H Q):Wp (cx E M m N g cur) (.cond c a b) F H Q:=by
 cases t
 ·obtain ⟨e,F',H',h1,h2⟩:=c4l _ h;exact ⟨e,F',H',Ev.cond_f hc h1,h2⟩
 ·obtain ⟨e,F',H',h1,h2⟩:=c4l _ h;exact ⟨e,F',H',Ev.cond_t hc h1,h2⟩
theorem d4m {E:Env} {M:List Fact} {m N:Nat} {g:FuncId} {cur:Nat} {keep:List Nat} {b:Code} (hk:E.keep g cur = keep) (J:Nat → Frm → a03 → Prop) (n0:Nat) (h0:∃ F1 H1,gcD m keep F H = some (F1,H1) ∧ J n0 F1 H1)
 (h:∀ n F1 H1,J n F1 H1 → Wp (cx E M m N g cur) b F1 H1 (lpJ m keep J n Q)):∃ r:AExit × Frm × a03,Q r.1 r.2.1 r.2.2 ∧ EvL (cx E M m N g cur) b F H r:=by
 subst hk
 have key:∀ n F H F1 H1,gcD m (E.keep g cur) F H = some (F1,H1) → J n F1 H1 → ∃ r:AExit × Frm × a03,Q r.1 r.2.1 r.2.2 ∧ EvL (cx E M m N g cur) b F H r:=by
  intro n
  induction n using Nat.strongRecOn with
  | ind n ih=>
   intro F H F1 H1 hg hJ
   obtain ⟨e,F',H',h1,h2⟩:=c4l _ (h n F1 H1 hJ)
   cases e with
   | normal=>
    obtain ⟨F2,H2,n',g1,g2,g3⟩:=h2
    obtain ⟨r,hr,hl⟩:=ih n' g2 F' H' F2 H2 g1 g3
    exact ⟨r,hr,EvL.again (x:=cx E M m N g cur) hg h1 hl⟩
   | exit id=>exact ⟨(_,_,_),h2,EvL.leave (x:=cx E M m N g cur) hg h1 (fun h=>by cases h)⟩
   | ret=>exact ⟨(_,_,_),h2,EvL.leave (x:=cx E M m N g cur) hg h1 (fun h=>by cases h)⟩
 obtain ⟨F1,H1,hg,hJ⟩:=h0
 exact key n0 F H F1 H1 hg hJ
theorem a5k {E:Env} {M:List Fact} {m N:Nat} {g:FuncId} {cur:Nat} {keep:List Nat} {b:Code} (hk:E.keep g cur = keep) (J:Nat → Frm → a03 → Prop) (n0:Nat) (h0:∃ F1 H1,gcD m keep F H = some (F1,H1) ∧ J n0 F1 H1)
 (h:∀ n F1 H1,J n F1 H1 → Wp (cx E M m N g cur) b F1 H1 (lpJ m keep J n Q)) (hz:d12 keep = false:=by rfl) (hx:a71 b = none:=by rfl):Wp (cx E M m N g cur) (.loop b) F H Q:=by
 obtain ⟨⟨e,F',H'⟩,hr,hl⟩:=d4m hk J n0 h0 h
 exact ⟨e,F',H',Ev.loop hx (by rw [← hk] at hz;exact hz) hl,hr⟩
def fz (m:Nat) (Q:b04):b04:=fun e F H=>Q e (c2k m H F) (c2j m H)
theorem e0m {E:Env} {M:List Fact} {m N:Nat} {g:FuncId} {cur:Nat} {keep:List Nat} {b:Code} (hk:E.keep g cur = keep) (hz:d12 keep = true) (J:Nat → Frm → a03 → Prop) (n0:Nat) (h0:∃ F1 H1,gcD m keep F H = some (F1,H1) ∧ J n0 F1 H1)
 (h:∀ n F1 H1,J n F1 H1 → Wp (cx E M m N g cur) b F1 H1 (lpJ m keep J n (fz m Q))) (hx:a71 b = none:=by rfl):Wp (cx E M m N g cur) (.loop b) F H Q:=by
 obtain ⟨⟨e,F',H'⟩,hr,hl⟩:=d4m hk J n0 h0 h
 exact ⟨e,_,_,Ev.loopZ hx (x:=cx E M m N g cur) (by rw [← hk] at hz;exact hz) hl,hr⟩
theorem a0x {E:Env} {M:List Fact} {m N:Nat} {g:FuncId} {cur:Nat} {keep:List Nat} {b:Code} (hk:E.keep g cur = keep) {σ:Type} (Fs:σ → Frm) (Hs:σ → a03) (meas:σ → Nat) (Inv:σ → Prop) (s0:σ) (h0:gcD m keep F H = some (Fs s0,Hs s0)) (hi:Inv s0)
 (h:∀ s,Inv s → Wp (cx E M m N g cur) b (Fs s) (Hs s) (lp m keep Fs Hs meas Inv (meas s) Q)) (hz:d12 keep = false:=by rfl) (hx:a71 b = none:=by rfl):Wp (cx E M m N g cur) (.loop b) F H Q:=by
 refine a5k hk (fun n F1 H1=>∃ s,F1 = Fs s ∧ H1 = Hs s ∧ n = meas s ∧ Inv s) (meas s0) ⟨_,_,h0,s0,rfl,rfl,rfl,hi⟩ ?_ hz hx
 rintro n F1 H1 ⟨s,rfl,rfl,rfl,hs⟩
 refine c6p (h s hs) ?_
 intro e F' H' h2
 cases e with
 | normal=>obtain ⟨s',g1,g2,g3⟩:=h2;exact ⟨_,_,_,g1,g2,s',rfl,rfl,rfl,g3⟩
 | exit id=>exact h2
 | ret=>exact h2
theorem a1i {E:Env} {M:List Fact} {m N:Nat} {g:FuncId} {cur:Nat} {keep:List Nat} (hk:E.keep g cur = keep) {b:Code} {σ:Type} (Fs:σ → Frm) (Hs:σ → a03) (meas:σ → Nat) (Inv:σ → Prop) (s0:σ) (h0:gcD m keep F H = some (Fs s0,Hs s0)) (hi:Inv s0)
 (_:∀ s,Inv s → gcD m keep (Fs s) (Hs s) = some (Fs s,Hs s)) (h:∀ s,Inv s → Wp (cx E M m N g cur) b (Fs s) (Hs s) (lp m keep Fs Hs meas Inv (meas s) Q)) (hz:d12 keep = false:=by rfl) (hx:a71 b = none:=by rfl):Wp (cx E M m N g cur) (.loop b) F H Q:=a0x hk Fs Hs meas Inv s0 h0 hi h hz hx
theorem a21 {m:Nat} {keep:List Nat} {J:Nat → Frm → a03 → Prop} {n:Nat} (n':Nat) (hn:n' < n) (h:∃ F1 H1,gcD m keep F H = some (F1,H1) ∧ J n' F1 H1):lpJ m keep J n Q .normal F H:=by
 obtain ⟨F1,H1,h1,h2⟩:=h;exact ⟨F1,H1,n',h1,hn,h2⟩
theorem a1y {σ:Type} {m:Nat} {keep:List Nat} {Fs:σ → Frm} {Hs:σ → a03} {meas:σ → Nat} {Inv:σ → Prop} {n:Nat} (s:σ) (h1:gcD m keep F H = some (Fs s,Hs s)) (h2:meas s < n) (h3:Inv s):lp m keep Fs Hs meas Inv n Q .normal F H:=⟨s,h1,h2,h3⟩
theorem a9b {E:Env} {g:FuncId} {m:Nat} {results:List ResultVar} {r:AV × a03} {vs:List AV} (h1:a13 E F H results = some vs) (h2:a1j (E.thaw g) m (a5g vs) H = some r):fq E g m results r .ret F H:=⟨vs,h1,h2⟩
end
theorem e10 {E:Env} {M:List Fact} {g:FuncId} {args:List AV} {H:a03} {code:Code} {N:Nat} {results:List ResultVar} {r:AV × a03}
 (hfn:E.fn g = some ⟨code,N,results⟩) (hno:∀ y ∈ M,y.g ≠ g) (hN:Nat.ble args.length N = true) {m:Nat} (hm:H.length = m) (h:Wp (cx E M m N g 0) code (a5e 0 args) H (fq E g m results r)) (hp:E.prim g args = none:=by rfl) (hz:E.zf g = false:=by rfl):sem E M g args H = some r:=by
 subst hm
 obtain ⟨e,F',H',h1,h2⟩:=c4l _ h
 obtain ⟨v,H2⟩:=r
 cases e with
 | normal=>obtain ⟨vs,h3,h4⟩:=h2;exact c3d hfn hno hN h1 (fun _ h=>by cases h) h3 h4 hp hz
 | ret=>obtain ⟨vs,h3,h4⟩:=h2;exact c3d hfn hno hN h1 (fun _ h=>by cases h) h3 h4 hp hz
 | exit id=>exact h2.elim
theorem xa {E:Env} {M:List Fact} {m N:Nat} {g:FuncId} {cur:Nat} {c:Code} {F F1:Frm} {H H1:a03} {log:List LogE} {t:Bool} {Q:b04} (h:hs E M N c F H F1 H1 log t) (hl:sd c log = true) (k:ct (cx E M m N g cur) c t F1 H1 Q):Wp (cx E M m N g cur) c F H Q:=by
 cases c with
 | region id ops draw=>exact xs (congrArg Prod.fst h) hl k
 | cond c a b=>
  have h1:opv E F c = .bool t:=d7h (congrArg Prod.fst h)
  have h2:(F,H,([]:List LogE)) = (F1,H1,log):=congrArg Prod.snd h
  cases h2
  exact xI h1 k
 | _=>exact k.elim
theorem gS:(∀ a b:Code,(some a).getD b = a) ∧ (∀ l:List ResultVar,(List.toArray l).toList = l):=⟨fun _ _=>rfl,fun _=>rfl⟩
def AExit.fin:AExit → Bool
 | .exit _=>false
 | _=>true
@[go_sem] theorem f0i:AExit.ret.fin = true:=by rfl
theorem fqb {E:Env} {g:FuncId} {m:Nat} {results:List ResultVar} {r:AV × a03} {e:AExit} {F:Frm} {H:a03} (h:(bif e.fin then a0h (a13 E F H results) fun vs=>a1j (E.thaw g) m (a5g vs) H else none) = some r):fq E g m results r e F H:=by
 cases ha:a13 E F H results with
 | none=>rw [ha] at h;cases e<;>cases h
 | some vs=>
  rw [ha] at h
  cases e with
  | exit i=>cases h
  | _=>exact ⟨vs,ha,h⟩
theorem sv {E:Env} {M:List Fact} {g:FuncId} {args:List AV} {H:a03} {r:AV × a03} (f:Func) (h:Wp (cx E M H.length f.ntmps g 0) (f.body.getD .skip) (a5e 0 args) H (fq E g H.length f.results.toList r)) (hfn:E.fn g = some ⟨f.body.getD .skip,f.ntmps,f.results.toList⟩:=by kernel_rfl)
 (hno:(M.all fun y=>!Nat.beq y.g g) = true:=by rfl) (hN:Nat.ble args.length f.ntmps = true:=by rfl) (hp:E.prim g args = none:=by rfl) (hz:E.zf g = false:=by rfl):sem E M g args H = some r:=e10 hfn (fun y hy e=>by
 have:=List.all_eq_true.1 hno y hy
 rw [e] at this
 simp at this) hN rfl h hp hz
end Go.Ax
/- AxTyp: d61 abstract values, taken apart. -/
namespace Go.Ax
section
variable {E:Env} {n:Nat} {t e:TypeId} {avs:List AV}
theorem b3a {α:Type} {f:α → List AV} {P:α → Prop} (hs:slT E t = some e) (he:∀ r,Typ E n e r → ∃ x,P x ∧ r = f x) (h:Typ E (n + 1) t avs) :
 ∃ (c:Option (Option Nat)) (l:List α),avs = [sl c (l.map f)] ∧ l.length ≤ maxLen ∧ ∀ x ∈ l,P x:=by
 simp only [Typ,a3r.1 hs] at h
 rcases h with rfl|⟨rows,cap,rfl,h1,h2,h3⟩
 ·exact ⟨none,[],rfl,by simp,by simp⟩
 ·have key:∀ rows:List (List AV),(∀ r ∈ rows,r.length = E.sz e ∧ Typ E n e r) → ∃ l:List α,rows = l.map f ∧ ∀ x ∈ l,P x:=by
   intro rows
   induction rows with
   | nil=>intro _;exact ⟨[],rfl,by simp⟩
   | cons r rs ih=>
    intro hh
    obtain ⟨x,hx,rfl⟩:=he r (hh r (by simp)).2
    obtain ⟨l,rfl,hl⟩:=ih (fun r hr=>hh r (by simp [hr]))
    refine ⟨x :: l,rfl,?_⟩
    intro y hy
    simp only [List.mem_cons] at hy
    rcases hy with rfl|hy
    ·exact hx
    ·exact hl y hy
  obtain ⟨l,rfl,hl⟩:=key rows h3
  exact ⟨some (some cap),l,by rw [b0z],by simpa using Nat.le_trans h1 h2,hl⟩
theorem c6u {k:IntKind} (hk:c5m E t = some k) (h:Typ E (n + 1) t avs):∃ i,avs = [.int k i] ∧ (Lit.int k i).wf = true:=by
 simpa only [Typ,c3q hk] using h
theorem a51 (hk:c5m E t = some .u8) (h:Typ E (n + 1) t avs):∃ i:Nat,avs = [.int .u8 i] ∧ i < 256:=by
 obtain ⟨i,h1,h2⟩:=c6u hk h
 simp only [Lit.wf,Bool.and_eq_true,decide_eq_true_eq] at h2
 have e1:IntKind.u8.min = 0:=by rfl
 have e2:IntKind.u8.max = 255:=by rfl
 rw [e1,e2] at h2
 exact ⟨i.toNat,by rw [h1,Int.toNat_of_nonneg h2.1],by omega⟩
theorem d62 (hk:c5m E t = some .u64) (h:Typ E (n + 1) t avs):∃ w:BitVec 64,avs = [u64 w]:=by
 obtain ⟨i,h1,h2⟩:=c6u hk h
 simp only [Lit.wf,Bool.and_eq_true,decide_eq_true_eq] at h2
 have e1:IntKind.u64.min = 0:=by rfl
 have e2:IntKind.u64.max = 18446744073709551615:=by rfl
 rw [e1,e2] at h2
 refine ⟨BitVec.ofInt 64 i,?_⟩
 rw [h1]
 unfold u64
 congr 2
 rw [BitVec.toNat_ofInt]
 omega
theorem b77 (hb:E.und t = some .bool) (h:Typ E (n + 1) t avs):∃ b,avs = [.bool b]:=by simpa only [Typ,hb] using h
def b4w (E:Env) (t:TypeId):Option (List TypeId):=match E.und t with|some (.struct fs)=>some (fs.toList.map (·.type))|_=>none
def c4j (E:Env) (n:Nat):List TypeId → List AV → Prop
 | [],avs=>avs = []
 | t :: ts,avs=>∃ p r,avs = p ++ r ∧ Typ E n t p ∧ c4j E n ts r
theorem b0y {ts:List TypeId} (hf:b4w E t = some ts) (h:Typ E (n + 1) t avs):c4j E n ts avs:=by
 unfold b4w at hf
 split at hf
 case h_2=>cases hf
 rename_i fs hu
 cases hf
 simp only [Typ,hu] at h
 obtain ⟨parts,rfl,h1,h2⟩:=h
 have key:∀ (fs:List Field) (parts:List (List AV)),parts.length = fs.length → (∀ (i:Nat) f p,fs[i]? = some f → parts[i]? = some p → p.length = E.sz f.type ∧ Typ E n f.type p) → c4j E n (fs.map (·.type)) parts.flatten:=by
  intro fs
  induction fs with
  | nil=>intro parts hl _;have:=List.length_eq_zero_iff.1 hl;subst this;rfl
  | cons f fs ih=>
   intro parts hl hh
   cases parts with
   | nil=>simp at hl
   | cons p parts=>
    exact ⟨p,parts.flatten,by simp,(hh 0 f p rfl rfl).2,ih parts (by simpa using hl) (fun i f p hf hp=>hh (i + 1) f p (by simpa using hf) (by simpa using hp))⟩
 exact key fs.toList parts h1 h2
theorem b3b {m:Nat} (hf:c4f E t = some (m,e)) (h:Typ E (n + 1) t avs):c4j E n (List.replicate m e) avs:=by
 unfold c4f at hf
 split at hf
 case h_2=>cases hf
 rename_i m' e' hu
 cases hf
 simp only [Typ,hu] at h
 obtain ⟨parts,rfl,h1,h2⟩:=h
 subst h1
 clear hu
 induction parts with
 | nil=>rfl
 | cons p parts ih=>
  simp only [List.length_cons,List.replicate_succ]
  exact ⟨p,parts.flatten,by simp,(h2 p (by simp)).2,ih (fun q hq=>h2 q (by simp [hq]))⟩
theorem typA_one {a:AV} (hg:a7v E t = some false) (h:d5u E n t a):Typ E n t [a]:=by
 unfold d5u at h
 unfold a7v at hg
 cases hu:E.und t with
 | none=>rw [hu] at h;exact h.elim
 | some d=>
  rw [hu] at h hg
  simp only [Option.map_some,Option.some.injEq] at hg
  simpa [hg] using h
theorem d1b {a:AV} (hg:a7v E t = some true) (h:d5u E n t a):∃ avs,a = .agg avs ∧ Typ E n t avs:=by
 unfold d5u at h
 unfold a7v at hg
 cases hu:E.und t with
 | none=>rw [hu] at h;exact h.elim
 | some d=>
  rw [hu] at h hg
  simp only [Option.map_some,Option.some.injEq] at hg
  simpa [hg] using h
end
end Go.Ax
