/- Part of a proof. No condition. -/
import Derived.Test.YtbmkmaobejlkgaaDoorKMrg12
set_option linter.unusedSimpArgs false
set_option linter.unusedVariables false
namespace Go.KInst
open Go.Proofs Go.Ax Go.Pc
set_option maxRecDepth 100000
/-- A slice of bytes that grew: nil, or one block. -/
inductive RU (l:List Nat):AV → Heap → Prop
 | nil (h:l = []):RU l .nilslice []
 | blk (h:l ≠ []):RU l (.slice 0 0 l.length none) [some (.row 1 (l.map u8R))]
def m3 (l:List Nat):List Nat:=l.map (·% 3)
theorem values_ok (l:List Nat) (V:AV) (H:Heap) (hV:RU l V H) (hl:l.length ≤ 1000) (hb:∀ x ∈ l,x < 256):sem L.env Mf 67 [V] H = some (slU (m3 l),H):=by
 cases hV with
 | nil h0=>
  subst h0
  suffices hs:∃ r:AV × Heap,(r = (.nilslice,[])) ∧ sem L.env Mf 67 [.nilslice] [] = some r by
   obtain ⟨r,rfl,h3⟩:=hs
   exact h3
  (refine svE Tryd.f67 ?_;simp only [Tryd.f67,gS])
  (repeat first|simp only [ww]|(apply xa;simp +decide only [go_sem];rfl;kernel_rfl))
  refine xp_lp kp67_0 (fun q F H1=>F = [(0,.nilslice),(3,.nilslice),(4,.int .i64 0)] ∧ H1 = []) 0 ?_ ?_
  ·exact ⟨_,_,by (simp +decide only [go_sem,gcD_eq,gcIds_eq]<;>rfl)<;>rfl,rfl,rfl⟩
  ·rintro q F H1 ⟨rfl,rfl⟩
   (repeat first|simp only [ww]|(apply xa;simp +decide only [go_sem];rfl;kernel_rfl))
   exact fqE_n (vs:=[.nilslice]) (r:=(_,_)) (by simp +decide only [go_sem]) (by simp +decide only [go_sem,finish]<;>rfl) rfl
 | blk h0=>
  suffices hs:∃ r:AV × Heap,(r = (slU (m3 l),[some (.row 1 (l.map u8R))])) ∧ sem L.env Mf 67 [.slice 0 0 l.length none] [some (.row 1 (l.map u8R))] = some r by
   obtain ⟨r,rfl,h3⟩:=hs
   exact h3
  (refine svE Tryd.f67 ?_;simp only [Tryd.f67,gS])
  (repeat first|simp only [ww]|(apply xa;simp +decide only [go_sem];rfl;kernel_rfl))
  refine xp_lp kp67_0 (fun q F H1=>∃ (i:Nat) (o:List Nat),q = l.length - i ∧ i ≤ l.length ∧ o = (m3 l).take i ∧ F = [(0,.slice 0 0 l.length none),(3,grV 1 (o.map u8R)),(4,.int .i64 i)] ∧ H1 = some (.row 1 (l.map u8R)) :: grH 1 (o.map u8R)) l.length ?_ ?_
  ·refine ⟨_,_,?_,0,[],rfl,Nat.zero_le _,by simp,rfl,rfl⟩
   (simp +decide only [go_sem,gcD_eq,gcIds_eq,refsU,renU]<;>rfl)<;>rfl
  ·rintro q F H1 ⟨i,o,rfl,hi,ho,rfl,rfl⟩
   have hol:o.length ≤ i:=by rw [ho];simp;omega
   by_cases hlt:i < l.length
   ·obtain ⟨x,hx⟩:∃ x,l[i]? = some x:=⟨_,List.getElem?_eq_getElem hlt⟩
    have hg:(l.map u8R)[i]? = some [.int .u8 x]:=by rw [List.getElem?_map,hx];rfl
    have hst:(m3 l).take (i + 1) = o ++ [x % 3]:=by
     rw [ho,List.take_add_one];unfold m3;rw [List.getElem?_map,hx];rfl
    have c1:(i:Int) < l.length:=by omega
    have hw:=wI1 (n:=i) (by omega)
    cases o with
    | nil=>
     simp only [List.map_nil,grV_nil,grH_nil]
     (repeat first|simp only [ww]|(apply xa;simp +decide only [go_sem,c1,hlt,hg,hw,List.length_map];rfl;kernel_rfl))
     refine lpJ_n (l.length - (i + 1)) (by omega) ⟨_,_,?_,i + 1,[x % 3],rfl,hlt,hst.symm,rfl,rfl⟩
     (simp +decide only [go_sem,gcD_eq,gcIds_eq,refsU,renU,List.map_nil,List.map_cons,grV_cons,grH_cons,List.length_nil]<;>rfl)<;>rfl
    | cons a r=>
     have hrm:r.length + 1 + 1 ≤ 1000000000:=by simp only [List.length_cons] at hol;omega
     simp only [List.map_cons,grV_cons,grH_cons,List.length_map]
     (repeat first|simp only [ww]|(apply xa;simp +decide only [go_sem,c1,hlt,hg,hw,hrm,List.length_map];rfl;kernel_rfl))
     refine lpJ_n (l.length - (i + 1)) (by omega) ⟨_,_,?_,i + 1,a :: r ++ [x % 3],rfl,hlt,hst.symm,rfl,rfl⟩
     (simp +decide only [go_sem,gcD_eq,gcIds_eq,refsU,renU,List.cons_append,List.map_cons,List.map_append,List.map_nil,grV_cons,grH_cons,List.length_cons,List.length_map,List.length_append,List.length_nil]<;>rfl)<;>rfl
   ·obtain rfl:i = l.length:=by omega
    have c1:¬ (l.length:Int) < l.length:=by omega
    have hoe:o = m3 l:=by rw [ho];exact List.take_of_length_le (by simp [m3])
    rw [← hoe]
    cases o with
    | nil=>exact absurd hoe.symm (by simp [m3];exact h0)
    | cons a r=>
     simp only [List.map_cons,grV_cons,grH_cons,List.length_map]
     (repeat first|simp only [ww]|(apply xa;simp +decide only [go_sem,c1];rfl;kernel_rfl))
     refine fqE_n (vs:=[.slice 1 0 (r.length + 1) none]) (r:=(_,_)) (by simp +decide only [go_sem]) ?_ rfl
     simp +decide only [go_sem,finish,slU,slF,List.map_cons,frzU,takeU,List.length_map,renU]<;>rfl
def cU:List Nat → Option (Option Nat)|[]=>none|_=>some none
theorem slU_eq (l:List Nat):slU l = sl (cU l) (l.map u8R):=by cases l<;>rfl
/-- The cube of two lists of bytes. -/
def ofC (a b:List Nat):Cb:=⟨cU (m3 a),m3 a,cU (m3 b),m3 b⟩
end Go.KInst
