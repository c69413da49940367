/- Part of a proof. No condition. -/
import Derived.Test.YtbmkmaobejlkgaaDoorKPk
import Derived.Test.YtbmkmaobejlkgaaDoorAxF
import Derived.Test.YtbmkmaobejlkgaaDoorPcP
set_option linter.unusedSimpArgs false
set_option linter.unusedVariables false
namespace Go.KInst
open Go.Proofs Go.Ax Go.Pc
set_option maxRecDepth 100000
/-- The sets while they are made. -/
def cs0 (n i:Nat):List (Option (List Int)):=(List.range n).map fun j=>if j < i then some [] else none
def cs2 (n:Nat) (f:Nat → List Int):List (Option (List Int)):=((List.range n).map f).map some
open Go.Proofs Go.Ax Go.Pc Go.Sort
theorem flatI (l:List Nat):FlatR (l.map intR):=FlatR.map fun _=>rfl
theorem refsI (l:List Nat):(l.map intR).flatMap refsL = []:=refs_flatR (flatI l)
theorem renI (π:Nat → Option Nat) (l:List Nat):(l.map intR).map (fun r=>r.map (ren π)) = l.map intR:=renR_flat π (flatI l)
/-- A list without spare room, nil if it is empty. -/
def lsV:List Nat → AV|[]=>.nilslice|a :: r=>.islice ((a :: r).map intR) (some (r.length + 1))
theorem lsV_rv (l:List Nat):RV l (lsV l):=by
 cases l with
 | nil=>exact .nil rfl
 | cons a r=>exact .imm _
theorem lsV_refs (l:List Nat):refs (lsV l) = []:=(lsV_rv l).refs
theorem takeI (l:List Nat):List.take l.length (l.map intR) = l.map intR:=List.take_of_length_le (by simp)
/-- A table for so many tests. -/
structure Tab (tb:List (List Nat)) (n:Nat) (A:AV):Prop where
 val:TBv tb A
 rows:tb.length ≤ 1000
 tests:n ≤ 1000
 asc:∀ r ∈ tb,r.length < 1000000 ∧ Asc n (-1) r
theorem lsV_cap (l:List Nat):acap L.env 27 (lsV l) = some (.int .i64 l.length):=by
 cases l with
 | nil=>simp +decide only [go_sem,lsV];rfl
 | cons a r=>simp +decide only [go_sem,lsV,List.length_cons]
theorem ints_ok (l:List Nat) (c:Option Nat) (hl:l.length < 1000000):sem L.env Mf 16 [lsV l,.slice 0 0 l.length c] [some (.row 1 (l.map intR))] = some (.int .i64 0,[some (.row 1 (l.map intR))]):=by
 have hlen2:=rv_len (lsV_rv l) (HeapF [some (.row 1 (l.map intR))])
 have hcap:=lsV_cap l
 have hr:=lsV_refs l
 have hren:∀ π,ren π (lsV l) = lsV l:=fun π=>ren_flat π _ hr
 have c0:¬ (l.length:Int) < l.length:=by omega
 suffices hs:∃ r:AV × Heap,(r = (.int .i64 0,[some (.row 1 (l.map intR))])) ∧ sem L.env Mf 16 [lsV l,.slice 0 0 l.length c] [some (.row 1 (l.map intR))] = some r by
  obtain ⟨r,rfl,h3⟩:=hs
  exact h3
 (refine svE Tryd.f16 ?_;simp only [Tryd.f16,gS])
 (repeat first|simp only [ww]|(apply xa;simp +decide only [go_sem,hlen2,hcap,c0];rfl;kernel_rfl))
 refine xp_lp kp16_0 (fun n F H1=>∃ (i:Nat),n = l.length - i ∧ i ≤ l.length ∧ F = [(0,lsV l),(1,.slice 0 0 l.length c),(5,.int .i64 i)] ∧ H1 = [some (.row 1 (l.map intR))]) l.length ?_ ?_
 ·refine ⟨_,_,?_,0,rfl,Nat.zero_le _,rfl,rfl⟩
  (simp +decide only [go_sem,gcD_eq,gcIds_eq,hr,hren,refsI,renI]<;>rfl)<;>rfl
 ·rintro n F H1 ⟨i,rfl,hi,rfl,rfl⟩
  by_cases hlt:i < l.length
  ·obtain ⟨v,hv⟩:∃ v,l[i]? = some v:=⟨_,List.getElem?_eq_getElem hlt⟩
   have hg:(l.map intR)[i]? = some [.int .i64 v]:=by rw [List.getElem?_map,hv];rfl
   have hls:lsV l = .islice (l.map intR) (some l.length):=by
    cases l with
    | nil=>simp at hlt
    | cons a r=>rfl
   have c1:(i:Int) < l.length:=by omega
   have hw:=wI1 (n:=i) (by omega)
   have c2:¬ ¬ (v:Int) = v:=by simp
   (repeat first|simp only [ww]|(apply xa;simp +decide only [go_sem,hlen2,c1];rfl;kernel_rfl))
   (repeat first|simp only [ww]|((with_reducible first|apply xs2|apply xI);(·simp +decide only [go_sem,hls,hg,hlt,List.length_map,hw];rfl);with_reducible first|apply xT|apply xF|(·kernel_rfl)))
   refine lpJ_n (l.length - (i + 1)) (by omega) ⟨_,_,?_,i + 1,rfl,hlt,rfl,rfl⟩
   (simp +decide only [go_sem,gcD_eq,gcIds_eq,hls,refsI,renI]<;>rfl)<;>rfl
  ·obtain rfl:i = l.length:=by omega
   have c1:¬ (l.length:Int) < l.length:=by omega
   (repeat first|simp only [ww]|(apply xa;simp +decide only [go_sem,hlen2,c1];rfl;kernel_rfl))
   refine fqE_n (vs:=[.int .i64 0]) (r:=(_,_)) (by simp +decide only [go_sem]) ?_ rfl
   simp +decide only [go_sem,finish,renI]<;>rfl
theorem ints_call {d:Bool} {H:Heap} {b:Nat} {l:List Nat} {c:Option Nat} (hl:l.length < 1000000) (hb:HeapF H b = some (.row 1 (l.map intR))) :
 callV L.env d (sem L.env Mf) (.func (.func 16) [] []) [lsV l,.slice b 0 l.length c] H = some (.int .i64 0,H,[b]):=by
 have hr:=lsV_refs l
 have hren:∀ π,ren π (lsV l) = lsV l:=fun π=>ren_flat π _ hr
 have h:=callV_one' (E:=L.env) (draw:=d) (call:=sem L.env Mf) (g:=16) (fs:=[]) (cs:=[]) (ar:=[lsV l,.slice b 0 l.length c]) (H:=H) (b:=b) (by kernel_rfl) (by kernel_rfl) rfl hb (refsO_flat (flatI l)) (FlatO.row (flatI l)) (by simp only [List.nil_append,List.append_nil,refsL_cons,hr,refs_slice];rfl) (args':=[lsV l,.slice 0 0 l.length c]) (by simp only [List.nil_append,List.append_nil,List.map_cons,List.map_nil,ren_slice1,hren]) (ints_ok l c hl) (FlatO.row (flatI l)) rfl
 rw [set_same hb] at h
 exact h
end Go.KInst
