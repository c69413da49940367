/- Part of a proof. No condition. -/
import Derived.Test.YtbmkmaobejlkgaaDoorKMrg10
import Derived.Test.YtbmkmaobejlkgaaDoorAxGw
import Derived.Test.YtbmkmaobejlkgaaDoorAxE
set_option linter.unusedSimpArgs false
set_option linter.unusedVariables false
namespace Go.KInst
open Go.Proofs Go.Ax Go.Pc
set_option maxRecDepth 100000
/-- A valid cube of this shape. -/
structure Cb.sh (n m:Nat) (p:Cb):Prop where
 ok:p.ok
 ins:p.ins.length = n
 sts:p.sts.length = m
theorem Cb.sh.two {n m:Nat} {p q:Cb} (h:p.sh n m) (k:q.sh n m):Shp p q:=⟨h.ok,k.ok,by rw [h.ins,k.ins],by rw [h.sts,k.sts]⟩
theorem relC_sh {n m:Nat} {p:Cb} (h:p.sh n m):(relC p).sh n m:=⟨h.ok,h.ins,h.sts⟩
theorem mrgC_sh {n m:Nat} {p q:Cb} (h:p.sh n m) (k:q.sh n m):(mrgC p q).sh n m:=by
 have hi:=h.ins
 have hs:=h.sts
 have ki:=k.ins
 have ks:=k.sts
 have ho:=h.ok.1
 refine ⟨⟨by simp [mrgC];omega,fun v hv=>?_⟩,by simp [mrgC];omega,by simp [mrgC];omega⟩
 have hp:=h.ok.2
 unfold Cb.all mrgC at hv
 simp only [List.mem_append] at hv
 rcases hv with hv|hv
 ·obtain ⟨i,hi,rfl⟩:=List.getElem_of_mem hv
  rw [List.getElem_zipWith]
  have:p.ins[i]'(by simp at hi;omega) ≤ 2:=hp _ (by unfold Cb.all;simp)
  omega
 ·obtain ⟨i,hi,rfl⟩:=List.getElem_of_mem hv
  rw [List.getElem_zipWith]
  have:p.sts[i]'(by simp at hi;omega) ≤ 2:=hp _ (by unfold Cb.all;simp)
  omega
/-- One step of the merging. -/
def mstep (s:List Cb × List (List Nat)) (i:Nat) (p:Cb):List Cb × List (List Nat):=match s.1.findIdx? (cmpB p) with
 | none=>(s.1 ++ [relC p],s.2 ++ [[i]])
 | some k=>(s.1.set k (mrgC (s.1.getD k p) p),s.2.set k (s.2.getD k [] ++ [i]))
def mrun (ps:List Cb):Nat → List Cb × List (List Nat)
 | 0=>([],[])
 | i + 1=>match ps[i]? with
  | some p=>mstep (mrun ps i) i p
  | none=>mrun ps i
theorem mrun_succ {ps:List Cb} {i:Nat} {p:Cb} (h:ps[i]? = some p):mrun ps (i + 1) = mstep (mrun ps i) i p:=by simp only [mrun,h]
/-- What holds of it. -/
structure MInv (n m i:Nat) (s:List Cb × List (List Nat)):Prop where
 len:s.1.length = s.2.length
 le:s.1.length ≤ i
 sh:∀ q ∈ s.1,q.sh n m
 ne:∀ g ∈ s.2,g ≠ [] ∧ g.length ≤ i
theorem MInv.step {n m i:Nat} {s:List Cb × List (List Nat)} {p:Cb} (h:MInv n m i s) (hp:p.sh n m):MInv n m (i + 1) (mstep s i p):=by
 unfold mstep
 split
 ·refine ⟨by simp [h.len],by simp;exact h.le,fun q hq=>?_,fun g hg=>?_⟩
  ·rcases List.mem_append.1 hq with hq|hq
   ·exact h.sh q hq
   ·simp at hq;subst hq;exact relC_sh hp
  ·rcases List.mem_append.1 hg with hg|hg
   ·have:=h.ne g hg;exact ⟨this.1,by omega⟩
   ·simp at hg;subst hg;exact ⟨by simp,by simp⟩
 ·rename_i k hk
  have hkl:=(List.findIdx?_eq_some_iff_getElem.1 hk).1
  refine ⟨by simp [h.len],by simp;have:=h.le;omega,fun q hq=>?_,fun g hg=>?_⟩
  ·rcases List.mem_or_eq_of_mem_set hq with hq|rfl
   ·exact h.sh q hq
   ·refine mrgC_sh ?_ hp
    rw [List.getD_eq_getElem?_getD,List.getElem?_eq_getElem hkl]
    exact h.sh _ (List.getElem_mem hkl)
  ·rcases List.mem_or_eq_of_mem_set hg with hg|rfl
   ·have:=h.ne g hg;exact ⟨this.1,by omega⟩
   ·refine ⟨by simp,?_⟩
    have hk2:k < s.2.length:=by rw [← h.len];exact hkl
    rw [List.getD_eq_getElem?_getD,List.getElem?_eq_getElem hk2]
    have:=(h.ne _ (List.getElem_mem hk2)).2
    simp;omega
theorem mrun_inv {n m:Nat} {ps:List Cb} (h:∀ p ∈ ps,p.sh n m):∀ i,MInv n m i (mrun ps i)
 | 0=>⟨rfl,Nat.le_refl _,fun q hq=>by simp [mrun] at hq,fun g hg=>by simp [mrun] at hg⟩
 | i + 1=>by
  have ih:=mrun_inv h i
  simp only [mrun]
  cases hp:ps[i]? with
  | none=>show MInv n m (i + 1) (mrun ps i);exact ⟨ih.len,by have:=ih.le;omega,ih.sh,fun g hg=>⟨(ih.ne g hg).1,by have:=(ih.ne g hg).2;omega⟩⟩
  | some p=>exact ih.step (h p (List.mem_of_getElem? hp))
def foG (gs:List (List Nat)):List (List (List AV)):=gs.map (·.map intR)
def cpG (gs:List (List Nat)) (j:Nat):Option Nat:=match gs[j]? with|some [_]=>some 1|_=>none
inductive GS (outs:List Cb) (gs:List (List Nat)):Heap → AV → AV → Prop
 | nil (h1:outs = []) (h2:gs = []):GS outs gs [] .nilslice .nilslice
 | some (H:Heap) (w b:Nat) (ids:Nat → Nat) (h1:outs ≠ []) (h:Gw H w b ids (cpG gs) (outs.map Cb.cells) (foG gs)):GS outs gs H (.slice w 0 outs.length none) (.slice b 0 gs.length none)
theorem idxP_call {H:Heap} {w:Nat} (p:Cb) (l:List Cb) (h:∀ q ∈ l,Shp p q) (hl:l.length ≤ 1000) (hw:HeapF H w = some (.row 2 (l.map Cb.cells))) :
 callV L.env false (sem L.env Mf) (.func (.func 43) [] []) [.slice w 0 l.length none,.func (.func 44) [] [.ptr H.length 0 0]] (H ++ [some (.row 2 [p.cells])]) =
 some (.int .i64 (fidI (l.findIdx? (cmpB p))),H ++ [some (.row 2 [p.cells])],[w,H.length]):=by
 have hwl:=heapF_lt hw
 have h1:HeapF (H ++ [some (.row 2 [p.cells])]) w = some (.row 2 (l.map Cb.cells)):=by rw [heapF_lo (eq_true hwl)];exact hw
 have h2:HeapF (H ++ [some (.row 2 [p.cells])]) H.length = some (.row 2 [p.cells]):=heapF_hi0
 have hc:=callV_two (E:=L.env) (draw:=false) (call:=sem L.env Mf) (g:=43) (fs:=[]) (cs:=[]) (ar:=[.slice w 0 l.length none,.func (.func 44) [] [.ptr H.length 0 0]]) (by kernel_rfl) (by kernel_rfl) rfl (a:=w) (b:=H.length) (by omega) h1 h2 (refsO_flat (flatP l)) (refsO_flat (cells_flat p)) (FlatO.row (flatP l)) (FlatO.row (cells_flat p)) rfl
  (args':=[.slice 0 0 l.length none,.func (.func 44) [] [.ptr 1 0 0]]) (by
   have hne:¬ w = H.length:=by omega
   simp [ren,renL,piOf,List.idxOf?_cons,hne]) (idxP_ok p l h hl) (FlatO.row (flatP l)) (FlatO.row (cells_flat p)) (v':=.int .i64 (fidI (l.findIdx? (cmpB p)))) rfl
 rw [set_same h1,set_same h2] at hc
 exact hc
end Go.KInst
