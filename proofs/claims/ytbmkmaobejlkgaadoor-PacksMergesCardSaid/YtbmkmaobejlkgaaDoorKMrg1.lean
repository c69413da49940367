/- Part of a proof. No condition. -/
import Derived.Test.YtbmkmaobejlkgaaDoorKPck14
import Derived.Test.YtbmkmaobejlkgaaDoorAxRf
import Derived.Test.YtbmkmaobejlkgaaDoorAxF
set_option linter.unusedSimpArgs false
set_option linter.unusedVariables false
namespace Go.KInst
open Go.Proofs Go.Ax Go.Pc
set_option maxRecDepth 100000
/-- An immutable cube. -/
structure Cb where
 ci:Option (Option Nat)
 ins:List Nat
 cs:Option (Option Nat)
 sts:List Nat
def Cb.cells (p:Cb):List AV:=[sl p.ci (p.ins.map u8R),sl p.cs (p.sts.map u8R)]
def Cb.enc (p:Cb):AV:=.agg p.cells
def Cb.all (p:Cb):List Nat:=p.ins ++ p.sts
theorem bitsF_ok (p:Cb):sem L.env Mf 52 [p.enc] [] = some (.func (.func 72) [] [.iptr p.cells],[]):=by
 unfold Cb.enc Cb.cells
 (refine sv Tryd.f52 ?_;simp only [Tryd.f52,gS])
 (repeat first|simp only [ww]|(apply xa;simp +decide only [go_sem];rfl;kernel_rfl))
 (apply fqb;simp +decide only [go_sem,finish]<;>rfl)
theorem bitsF_call {d:Bool} (H:Heap) (p:Cb):callV L.env d (sem L.env Mf) (.func (.func 52) [] []) [p.enc] H = some (.func (.func 72) [] [.iptr p.cells],H,[]):=
 callV_flat (by kernel_rfl) (by kernel_rfl) rfl (by unfold Cb.enc Cb.cells;simp +decide only [go_sem]) (bitsF_ok p) (by unfold Cb.cells;simp +decide only [go_sem])
/-- The bits of a cube, visited by rounds that all say yes. -/
theorem bits1_ok (p:Cb) (hl:p.ins.length + p.sts.length < 100000) (Hs:Nat → Heap) (m:Nat) (hlen:∀ i,(Hs i).length = m) (h0:0 < m) (hlow:∀ i b,∀ c ∈ refsO (HeapF (Hs i) b),c < m) (hsum:∀ i,((Hs i).flatMap refsO).length < 100000)
 (hstep:∀ (i v:Nat),p.all[i]? = some v → ∃ σ,∀ d,callV L.env d (sem L.env Mf) (.yfn 0) [.int .i64 i,.iptr [.int .u8 v]] (Hs i) = some (.bool true,Hs (i + 1),σ)) :
 sem L.env Mf 72 [.yfn 0,.iptr p.cells] (Hs 0) = some (.tuple [],Hs (p.ins.length + p.sts.length)):=by
 have hone:oneOf [] = .tuple []:=rfl
 have hstep1:∀ (i v:Nat),p.ins[i]? = some v → ∃ σ,∀ d,callV L.env d (sem L.env Mf) (.yfn 0) [.int .i64 i,.iptr [.int .u8 v]] (Hs i) = some (.bool true,Hs (i + 1),σ):=fun i v h=>hstep i v (by
  unfold Cb.all;rw [List.getElem?_append_left (List.getElem?_eq_some_iff.1 h).1];exact h)
 have hstep2:∀ (i v:Nat),p.sts[i]? = some v → ∃ σ,∀ d,callV L.env d (sem L.env Mf) (.yfn 0) [.int .i64 (p.ins.length + i:Nat),.iptr [.int .u8 v]] (Hs (p.ins.length + i)) = some (.bool true,Hs (p.ins.length + i + 1),σ):=fun i v h=>hstep (p.ins.length + i) v (by
  unfold Cb.all;rw [List.getElem?_append_right (by omega),Nat.add_sub_cancel_left];exact h)
 have hmm:=(hlen 0).symm
 suffices hs:∃ r:AV × Heap,(r = (.tuple [],Hs (p.ins.length + p.sts.length))) ∧ sem L.env Mf 72 [.yfn 0,.iptr p.cells] (Hs 0) = some r by
  obtain ⟨r,rfl,h3⟩:=hs
  exact h3
 obtain ⟨ci,ins,cs,sts⟩:=p
 unfold Cb.cells
 simp only at hl hstep1 hstep2 ⊢
 have hgc:∀ i (keep:List Nat) (F F':Frm),keepF keep F = F' → refsL (F'.map (·.2)) = [0] → gcD m keep F (Hs i) = some (F',Hs i):=fun i keep F F' hk hF=>
  gc_lowR (hlen i).symm hk (by rw [hF];intro b hb;simp at hb;rw [hb,hlen];exact h0) (by rw [hF];simp) (fun b c hc=>by rw [hlen];exact hlow i b c hc) (hsum i)
 have hfin:∀ i,finish false m (.tuple []) (Hs i) = some (.tuple [],Hs i):=by
  intro i
  simp only [finish,cond_false]
  have hz:frzV m true (frzD (HeapF (Hs i)) m 12) (.tuple []) = some (.tuple []):=by rfl
  rw [hz]
  simp only
  congr 2
  rw [← hlen i,List.take_length]
  apply List.ext_getElem (by simp)
  intro b h1 h2
  simp only [List.getElem_map]
  cases ho:(Hs i)[b] with
  | none=>rfl
  | some o=>
   have hob:HeapF (Hs i) b = some o:=by unfold HeapF;rw [List.getElem?_eq_getElem h2,ho];rfl
   simp only [Option.map_some]
   rw [renO_below (m:=m) (fun c hc=>by rw [hlen i];unfold piBelow;rw [bltD,decide_eq_true hc];rfl) o (fun c hc=>hlow i b c (by rw [hob];exact hc))]
 (refine svE Tryd.f72 ?_;simp only [Tryd.f72,gS])
 rw [hlen 0]
 (repeat first|simp only [ww]|(apply xa;simp +decide only [go_sem,List.length_map];rfl;kernel_rfl))
 refine xp_lp kp72_0 (fun q F H1=>∃ i:Nat,q = ins.length - i ∧ i ≤ ins.length ∧ F = [(0,.yfn 0),(1,.iptr [sl ci (ins.map u8R),sl cs (sts.map u8R)]),(7,.int .i64 ins.length),(8,.int .i64 i)] ∧ H1 = Hs i) ins.length ?_ ?_
 ·exact ⟨_,_,hgc 0 _ _ _ (by simp +decide only [go_sem]<;>rfl) (by simp +decide only [go_sem]),0,rfl,Nat.zero_le _,rfl,rfl⟩
 ·rintro q F H1 ⟨i,rfl,hi,rfl,rfl⟩
  by_cases hlt:i < ins.length
  ·obtain ⟨v,hv⟩:∃ v,ins[i]? = some v:=⟨_,List.getElem?_eq_getElem hlt⟩
   obtain ⟨σ,hst⟩:=hstep1 i v hv
   have hst:=hst false
   have hg:(ins.map u8R)[i]? = some [.int .u8 v]:=by rw [List.getElem?_map,hv];rfl
   have c1:(i:Int) < ins.length:=by omega
   have hw:=wI1 (n:=i) (by omega)
   (repeat first|simp only [ww]|(apply xa;simp +decide only [go_sem,c1,hlt,hg,hst,hw,List.length_map];rfl;kernel_rfl))
   refine lpJ_n (ins.length - (i + 1)) (by omega) ⟨_,_,hgc (i + 1) _ _ _ (by simp +decide only [go_sem]<;>rfl) (by simp +decide only [go_sem]),i + 1,rfl,hlt,rfl,rfl⟩
  ·obtain rfl:i = ins.length:=by omega
   have c1:¬ (ins.length:Int) < ins.length:=by omega
   (repeat first|simp only [ww]|(apply xa;simp +decide only [go_sem,c1,List.length_map];rfl;kernel_rfl))
   refine xp_lp kp72_2 (fun q F H1=>∃ j:Nat,q = sts.length - j ∧ j ≤ sts.length ∧ F = [(0,.yfn 0),(1,.iptr [sl ci (ins.map u8R),sl cs (sts.map u8R)]),(22,.int .i64 sts.length),(23,.int .i64 j)] ∧ H1 = Hs (ins.length + j)) sts.length ?_ ?_
   ·exact ⟨_,_,hgc _ _ _ _ (by simp +decide only [go_sem]<;>rfl) (by simp +decide only [go_sem]),0,rfl,Nat.zero_le _,rfl,rfl⟩
   ·rintro q F H1 ⟨j,rfl,hj,rfl,rfl⟩
    by_cases hlt2:j < sts.length
    ·obtain ⟨v,hv⟩:∃ v,sts[j]? = some v:=⟨_,List.getElem?_eq_getElem hlt2⟩
     obtain ⟨σ,hst⟩:=hstep2 j v hv
     have hst:=hst true
     have hg:(sts.map u8R)[j]? = some [.int .u8 v]:=by rw [List.getElem?_map,hv];rfl
     have c2:(j:Int) < sts.length:=by omega
     have hw:=wI1 (n:=j) (by omega)
     have hw2:IntKind.i64.wrap ((ins.length:Int) + (j:Int)) = ((ins.length + j:Nat):Int):=by rw [w64 (by omega) (by omega)];omega
     (repeat first|simp only [ww]|(apply xa;simp +decide only [go_sem,c2];rfl;kernel_rfl))
     (repeat first|simp only [ww]|((with_reducible first|apply xs2|apply xI);(·simp +decide only [go_sem,hlt2,hg,hst,hw,hw2,List.length_map];rfl);with_reducible first|apply xT|apply xF|(·kernel_rfl)))
     exact lpJ_n (sts.length - (j + 1)) (by omega) ⟨_,_,hgc (ins.length + (j + 1)) _ _ _ (by simp +decide only [go_sem]<;>rfl) (by simp +decide only [go_sem]),j + 1,rfl,hlt2,rfl,rfl⟩
    ·obtain rfl:j = sts.length:=by omega
     have c2:¬ (sts.length:Int) < sts.length:=by omega
     (repeat first|simp only [ww]|(apply xa;simp +decide only [go_sem,c2,List.length_map];rfl;kernel_rfl))
     refine fqE_n (vs:=[]) (r:=(_,_)) (by simp +decide only [go_sem]) ?_ rfl
     exact hfin _
end Go.KInst
