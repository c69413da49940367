/- Part of a proof. No condition. -/
import Derived.Test.YtbmkmaobejlkgaaDoorKMrg9
set_option linter.unusedSimpArgs false
set_option linter.unusedVariables false
namespace Go.KInst
open Go.Proofs Go.Ax Go.Pc
set_option maxRecDepth 100000
theorem cells_flat (p:Cb):FlatR [p.cells]:=by unfold Cb.cells;exact FlatR.cons (by simp +decide only [go_sem]) FlatR.nil
theorem flatP (l:List Cb):FlatR (l.map Cb.cells):=FlatR.map fun p=>by unfold Cb.cells;simp +decide only [go_sem]
theorem refsP (l:List Cb):(l.map Cb.cells).flatMap refsL = []:=refs_flatR (flatP l)
theorem renP (π:Nat → Option Nat) (l:List Cb):(l.map Cb.cells).map (fun r=>r.map (ren π)) = l.map Cb.cells:=renR_flat π (flatP l)
/-- The closure of packs.Merge. -/
theorem mcl_ok (p q:Cb) (h:Shp p q):sem L.env Mf 44 [q.enc,.ptr 0 0 0] [some (.row 2 [p.cells])] = some (.bool (cmpB p q),[some (.row 2 [p.cells])]):=by
 have hc:=compat_call (d:=false) (p:=p) (q:=q) (h:=h)
 unfold Cb.enc at hc ⊢
 unfold Cb.cells at hc ⊢
 (refine sv Tryd.f44 ?_;simp only [Tryd.f44,gS])
 (repeat first|simp only [ww]|(apply xa;simp +decide only [go_sem,hc];rfl;kernel_rfl))
 (apply fqb;simp +decide only [go_sem]<;>rfl)
theorem mcl_call (p q:Cb) (h:Shp p q) (X:Option AObj):callV L.env false (sem L.env Mf) (.func (.func 44) [] [.ptr 1 0 0]) [q.enc] [X,some (.row 2 [p.cells])] = some (.bool (cmpB p q),[X,some (.row 2 [p.cells])],[1]):=
 callV_one (fs:=[]) (cs:=[.ptr 1 0 0]) (args:=[q.enc,.ptr 1 0 0]) (b:=1) (by kernel_rfl) (by kernel_rfl) rfl rfl (refsO_flat (cells_flat p)) (FlatO.row (cells_flat p)) (by simp [refsL,refs,enc_refs]) (args':=[q.enc,.ptr 0 0 0]) (by
  have:=ren_flat (piOf [1]) _ (enc_refs q)
  simp only [List.map_cons,List.map_nil,this];rfl) (mcl_ok p q h) rfl
def fidI:Option Nat → Int|none=>-1|some k=>k
theorem idxP_ok (p:Cb) (l:List Cb) (h:∀ q ∈ l,Shp p q) (hl:l.length ≤ 1000):sem L.env Mf 43 [.slice 0 0 l.length none,.func (.func 44) [] [.ptr 1 0 0]] [some (.row 2 (l.map Cb.cells)),some (.row 2 [p.cells])] =
 some (.int .i64 (fidI (l.findIdx? (cmpB p))),[some (.row 2 (l.map Cb.cells)),some (.row 2 [p.cells])]):=by
 suffices hs:∃ r:AV × Heap,(r = (.int .i64 (fidI (l.findIdx? (cmpB p))),[some (.row 2 (l.map Cb.cells)),some (.row 2 [p.cells])])) ∧ sem L.env Mf 43 [.slice 0 0 l.length none,.func (.func 44) [] [.ptr 1 0 0]] [some (.row 2 (l.map Cb.cells)),some (.row 2 [p.cells])] = some r by
  obtain ⟨r,rfl,h3⟩:=hs
  exact h3
 have hp:=cells_flat p
 have hp0:=refs_flatR hp
 have hp1:=fun π=>renR_flat π hp
 have hcc:=fun q hq X=>mcl_call p q hq X
 generalize hPC:p.cells = PC at *
 (refine svE Tryd.f43 ?_;simp only [Tryd.f43,gS])
 (repeat first|simp only [ww]|(apply xa;simp +decide only [go_sem];rfl;kernel_rfl))
 refine xp_lp kp43_0 (fun q F H1=>∃ i:Nat,q = l.length - i ∧ i ≤ l.length ∧ F = [(0,.slice 0 0 l.length none),(1,.func (.func 44) [] [.ptr 1 0 0]),(7,.int .i64 l.length),(8,.int .i64 i)] ∧ H1 = [some (.row 2 (l.map Cb.cells)),some (.row 2 [PC])] ∧ ∀ j q,j < i → l[j]? = some q → cmpB p q = false) l.length ?_ ?_
 ·refine ⟨_,_,?_,0,rfl,Nat.zero_le _,rfl,rfl,fun j q hj=>by omega⟩
  (simp +decide only [go_sem,gcD_eq,gcIds_eq,refsP,renP,hp0,hp1]<;>rfl)<;>rfl
 ·rintro n F H1 ⟨i,rfl,hi,rfl,rfl,hno⟩
  by_cases hlt:i < l.length
  ·obtain ⟨q,hq⟩:∃ q,l[i]? = some q:=⟨_,List.getElem?_eq_getElem hlt⟩
   have hqs:=h q (List.mem_of_getElem? hq)
   have hst:callV L.env false (sem L.env Mf) (.func (.func 44) [] [.ptr 1 0 0]) [.agg [sl q.ci (q.ins.map u8R),sl q.cs (q.sts.map u8R)]] [some (.row 2 (l.map Cb.cells)),some (.row 2 [PC])] = some (.bool (cmpB p q),[some (.row 2 (l.map Cb.cells)),some (.row 2 [PC])],[1]):=hcc q hqs _
   have hg:(l.map Cb.cells)[i]? = some [sl q.ci (q.ins.map u8R),sl q.cs (q.sts.map u8R)]:=by rw [List.getElem?_map,hq];rfl
   have c1:(i:Int) < l.length:=by omega
   have hw:=wI1 (n:=i) (by omega)
   by_cases hb:cmpB p q = true
   ·rw [hb] at hst
    have hf:l.findIdx? (cmpB p) = some i:=by
     rw [List.findIdx?_eq_some_iff_getElem]
     refine ⟨hlt,by rw [(List.getElem?_eq_some_iff.1 hq).2];exact hb,fun j hj=>?_⟩
     have:=hno j l[j] hj (List.getElem?_eq_getElem (by omega))
     rw [this];simp
    (repeat first|simp only [ww]|(apply xa;simp +decide only [go_sem,c1,hlt,hg,hst,List.length_map];rfl;kernel_rfl))
    refine fqE_r (vs:=[.int .i64 i]) (r:=(_,_)) (by simp +decide only [go_sem]) (by simp +decide only [go_sem,finish,renP,hp1]<;>rfl) ?_
    rw [hf];rfl
   ·have hb:cmpB p q = false:=by simpa using hb
    rw [hb] at hst
    (repeat first|simp only [ww]|(apply xa;simp +decide only [go_sem,c1,hlt,hg,hst,hw,List.length_map];rfl;kernel_rfl))
    refine lpJ_n (l.length - (i + 1)) (by omega) ⟨_,_,?_,i + 1,rfl,hlt,rfl,rfl,fun j q' hj hq'=>?_⟩
    ·(simp +decide only [go_sem,gcD_eq,gcIds_eq,refsP,renP,hp0,hp1]<;>rfl)<;>rfl
    ·rcases Nat.lt_succ_iff_lt_or_eq.1 hj with h1|rfl
     ·exact hno j q' h1 hq'
     ·rw [hq] at hq';cases hq';exact hb
  ·obtain rfl:i = l.length:=by omega
   have c1:¬ (l.length:Int) < l.length:=by omega
   have hf:l.findIdx? (cmpB p) = none:=by
    rw [List.findIdx?_eq_none_iff]
    intro q hq
    obtain ⟨j,hj,rfl⟩:=List.getElem_of_mem hq
    exact hno j l[j] hj (List.getElem?_eq_getElem hj)
   (repeat first|simp only [ww]|(apply xa;simp +decide only [go_sem,c1];rfl;kernel_rfl))
   refine fqE_n (vs:=[.int .i64 (-1)]) (r:=(_,_)) (by simp +decide only [go_sem]) (by simp +decide only [go_sem,finish,renP,hp1]<;>rfl) ?_
   rw [hf];rfl
theorem idxP_nil (p:Cb):sem L.env Mf 43 [.nilslice,.func (.func 44) [] [.ptr 0 0 0]] [some (.row 2 [p.cells])] = some (.int .i64 (-1),[some (.row 2 [p.cells])]):=by
 have hp:=cells_flat p
 have hp0:=refs_flatR hp
 have hp1:=fun π=>renR_flat π hp
 generalize hPC:p.cells = PC at *
 (refine sv Tryd.f43 ?_;simp only [Tryd.f43,gS])
 (repeat first|simp only [ww]|(apply xa;simp +decide only [go_sem];rfl;kernel_rfl))
 refine xp_lp kp43_0 (fun q F H1=>F = [(0,.nilslice),(1,.func (.func 44) [] [.ptr 0 0 0]),(7,.int .i64 0),(8,.int .i64 0)] ∧ H1 = [some (.row 2 [PC])]) 0 ?_ ?_
 ·refine ⟨_,_,?_,rfl,rfl⟩
  (simp +decide only [go_sem,gcD_eq,gcIds_eq,hp0,hp1]<;>rfl)<;>rfl
 ·rintro q F H1 ⟨rfl,rfl⟩
  (repeat first|simp only [ww]|(apply xa;simp +decide only [go_sem];rfl;kernel_rfl))
  (apply fqb;simp +decide only [go_sem,hp1]<;>rfl)
end Go.KInst
