/- Part of a proof. No condition. -/
import Derived.Test.YtbmkmaobejlkgaaDoorKMrg6
set_option linter.unusedSimpArgs false
set_option linter.unusedVariables false
namespace Go.KInst
open Go.Proofs Go.Ax Go.Pc
set_option maxRecDepth 100000
theorem mk0 {n:Nat} (h:n ≤ 100000):mkOk L.env 84 0 (n:Int) = true:=by
 have:=mkOk_nat (E:=L.env) (e:=84) (m:=n) (by omega) (by decide +kernel)
 unfold mkOk at this ⊢
 simp only [Bool.and_eq_true,decide_eq_true_eq] at this ⊢
 omega
/-- cubes.own: a copy that may be written. -/
theorem own_ok (p:Cb) (hl:p.n ≤ 100000):sem L.env Mf 50 [p.enc] [] = some (.agg [.slice 2 0 p.ins.length (some p.ins.length),.slice 3 0 p.sts.length (some p.sts.length)],
 [some (.row 2 [p.cells]),some (.row 2 [[.slice 2 0 p.ins.length (some p.ins.length),.slice 3 0 p.sts.length (some p.sts.length)]]),some (.row 1 (p.ins.map u8R)),some (.row 1 (p.sts.map u8R))]):=by
 unfold Cb.n at hl
 have m1:=mk0 (n:=p.ins.length) (by omega)
 have m2:=mk0 (n:=p.sts.length) (by omega)
 have l1:=lenU p.ins
 have l2:=lenU p.sts
 have s1:=stoU p.ins
 have s2:=stoU p.sts
 have d1:List.drop p.ins.length (List.replicate p.ins.length [AV.int .u8 0]) = []:=List.drop_of_length_le (by simp)
 have d2:List.drop p.sts.length (List.replicate p.sts.length [AV.int .u8 0]) = []:=List.drop_of_length_le (by simp)
 unfold Cb.enc Cb.cells
 (refine sv Tryd.f50 ?_;simp only [Tryd.f50,gS])
 (repeat first|simp only [ww]|(apply xa;simp +decide only [go_sem];rfl;kernel_rfl))
 (repeat first|simp only [ww]|((with_reducible first|apply xs2|apply xI);(·simp +decide only [go_sem,m1,m2,l1,l2,s1,s2,d1,d2,List.length_map,List.length_replicate,Nat.zero_add,Nat.zero_le,Nat.le_refl,List.append_nil,List.nil_append];rfl);with_reducible first|apply xT|apply xF|(·kernel_rfl)))
 (apply fqb;simp +decide only [go_sem]<;>rfl)
def ownH (b:Nat) (p:Cb):Heap:=[some (.row 2 [p.cells]),some (.row 2 [[.slice (b + 2) 0 p.ins.length (some p.ins.length),.slice (b + 3) 0 p.sts.length (some p.sts.length)]]),some (.row 1 (p.ins.map u8R)),some (.row 1 (p.sts.map u8R))]
theorem own_call {d:Bool} (H:Heap) (p:Cb) (hl:p.n ≤ 100000):callV L.env d (sem L.env Mf) (.func (.func 50) [] []) [p.enc] H =
 some (.agg [.slice (H.length + 2) 0 p.ins.length (some p.ins.length),.slice (H.length + 3) 0 p.sts.length (some p.sts.length)],H ++ ownH H.length p,[]):=by
 have hr:=enc_refs p
 have hn:∀ π,ren π p.enc = p.enc:=fun π=>ren_flat π _ hr
 have h1:=fun π=>renU π p.ins
 have h2:=fun π=>renU π p.sts
 have hc:=callLoc_eq (sem L.env Mf 50) [p.enc] H (σ:=[]) (by simp only [refsL,hr,List.append_nil];rfl) rfl rfl (args':=[p.enc]) (by simp [hn]) (H0:=[]) rfl (own_ok p hl)
 refine callV_le (by kernel_rfl) (by kernel_rfl) rfl (hc.trans ?_) (by simp)
 unfold ownH Cb.cells
 simp only [putBack_nil,List.length_nil,List.drop_zero,List.map_cons,List.map_nil,Option.map_some,renObj,h1,h2,ren_sl,ren,renL,back_nil]
theorem idxR_nil (p:Cb):sem L.env Mf 87 [.nilslice,.func (.func 69) [] [.ptr 0 0 0]] [some (.row 2 [p.cells])] = some (.int .i64 (-1),[some (.row 2 [p.cells])]):=by
 unfold Cb.cells
 (refine sv Tryd.f87 ?_;simp only [Tryd.f87,gS])
 (repeat first|simp only [ww]|(apply xa;simp +decide only [go_sem];rfl;kernel_rfl))
 refine xp_lp kp87_0 (fun q F H1=>F = [(0,.nilslice),(1,.func (.func 69) [] [.ptr 0 0 0]),(7,.int .i64 0),(8,.int .i64 0)] ∧ H1 = [some (.row 2 [[sl p.ci (p.ins.map u8R),sl p.cs (p.sts.map u8R)]])]) 0 ?_ ?_
 ·refine ⟨_,_,?_,rfl,rfl⟩
  (simp +decide only [go_sem,gcD_eq,gcIds_eq]<;>rfl)<;>rfl
 ·rintro q F H1 ⟨rfl,rfl⟩
  (repeat first|simp only [ww]|(apply xa;simp +decide only [go_sem];rfl;kernel_rfl))
  (apply fqb;simp +decide only [go_sem]<;>rfl)
theorem conR_nil (p:Cb):sem L.env Mf 68 [.nilslice,.func (.func 69) [] [.ptr 0 0 0]] [some (.row 2 [p.cells])] = some (.bool false,[some (.row 2 [p.cells])]):=by
 have hc:=callV_one (E:=L.env) (draw:=false) (call:=sem L.env Mf) (g:=87) (fs:=[]) (cs:=[]) (ar:=[.nilslice,.func (.func 69) [] [.ptr 0 0 0]]) (H:=[some (.row 2 [p.cells])]) (b:=0) (by kernel_rfl) (by kernel_rfl) rfl rfl (by unfold Cb.cells;simp +decide only [go_sem]<;>rfl) (FlatO.row (FlatR.cons (by unfold Cb.cells;simp +decide only [go_sem]) FlatR.nil)) rfl rfl (idxR_nil p) rfl
 unfold Cb.cells at hc ⊢
 (refine sv Tryd.f68 ?_;simp only [Tryd.f68,gS])
 (repeat first|simp only [ww]|(apply xa;simp +decide only [go_sem,hc];rfl;kernel_rfl))
 (apply fqb;simp +decide only [go_sem]<;>rfl)
def relC (p:Cb):Cb:=⟨some (some p.ins.length),p.ins,some (some p.sts.length),p.sts⟩
theorem takeU (l:List Nat):List.take l.length (l.map u8R) = l.map u8R:=List.take_of_length_le (by simp)
theorem relax_ok (p:Cb) (h:p.ok):sem L.env Mf 45 [p.enc,.nilslice] [] = some (.tuple [(relC p).enc,.int .i64 0],[]):=by
 have hl:=h.1
 have hck:=check_call (d:=false) (p:=p) (h:=h)
 have hco:∀ X,callV L.env false (sem L.env Mf) (.func (.func 68) [] []) [.nilslice,.func (.func 69) [] [.ptr 0 0 0]] [some (.row 2 [p.cells]),X] = some (.bool false,[some (.row 2 [p.cells]),X],[0]):=fun X=>
  callV_one (b:=0) (by kernel_rfl) (by kernel_rfl) rfl rfl (by unfold Cb.cells;simp +decide only [go_sem]<;>rfl) (FlatO.row (FlatR.cons (by unfold Cb.cells;simp +decide only [go_sem]) FlatR.nil)) rfl (args':=[.nilslice,.func (.func 69) [] [.ptr 0 0 0]]) rfl (conR_nil p) rfl
 have how:=fun H=>own_call (d:=false) H p (by unfold Cb.n;omega)
 unfold ownH at how
 unfold relC
 unfold Cb.enc Cb.cells at hck hco how ⊢
 dsimp only
 (refine sv Tryd.f45 ?_;simp only [Tryd.f45,gS])
 (repeat first|simp only [ww]|(apply xa;simp +decide only [go_sem,hck,hco,how];rfl;kernel_rfl))
 refine xp_lp kp45_0 (fun q F H1=>F = [(2,.ptr 0 0 0),(4,.ptr 1 0 0),(7,.ptr 2 0 0),(22,.nilslice),(23,.int .i64 0),(24,.int .i64 0)] ∧
  H1 = [some (.row 2 [[sl p.ci (p.ins.map u8R),sl p.cs (p.sts.map u8R)]]),some (.row 2 [[.nilslice,.nilslice]]),some (.row 2 [[.slice 3 0 p.ins.length (some p.ins.length),.slice 4 0 p.sts.length (some p.sts.length)]]),some (.row 1 (p.ins.map u8R)),some (.row 1 (p.sts.map u8R))]) 0 ?_ ?_
 ·refine ⟨_,_,?_,rfl,rfl⟩
  (simp +decide only [go_sem,gcD_eq,gcIds_eq,refsU,renU]<;>rfl)<;>rfl
 ·rintro q F H1 ⟨rfl,rfl⟩
  (repeat first|simp only [ww]|(apply xa;simp +decide only [go_sem];rfl;kernel_rfl))
  (apply fqb;simp +decide only [go_sem,frzU,takeU,List.length_map]<;>rfl)
theorem relax_call (H:Heap) (p:Cb) (h:p.ok):callV L.env false (sem L.env Mf) (.func (.func 45) [] []) [p.enc,.nilslice] H = some (.tuple [(relC p).enc,.int .i64 0],H,[]):=
 callV_flat (by kernel_rfl) (by kernel_rfl) rfl (by simp [refsL,enc_refs,refs]) (relax_ok p h) (by simp [refs,refsL,enc_refs])
end Go.KInst
