/- Part of a proof. No condition. -/
import Derived.Test.YtbmkmaobejlkgaaDoorKMrg3
set_option linter.unusedSimpArgs false
set_option linter.unusedVariables false
namespace Go.KInst
open Go.Proofs Go.Ax Go.Pc
set_option maxRecDepth 100000
theorem flat_ok (p:Cb) (hl:p.ins.length + p.sts.length ≤ 100000):sem L.env Mf 51 [p.enc] [] = some (slU p.all,[]):=by
 have hc:∀ X,callV L.env false (sem L.env Mf) (.func (.func 71) [] []) [.slice 1 0 2 (some 2)] [X,some (.row 1 [[sl p.ci (p.ins.map u8R)],[sl p.cs (p.sts.map u8R)]])] = some (slU p.all,[X,some (.row 1 [[sl p.ci (p.ins.map u8R)],[sl p.cs (p.sts.map u8R)]])],[1]):=fun X=>
  callV_one (b:=1) (by kernel_rfl) (by kernel_rfl) rfl rfl (by simp +decide only [go_sem]<;>rfl) (FlatO.row (FlatR.cons (by simp +decide only [go_sem]) (FlatR.cons (by simp +decide only [go_sem]) FlatR.nil))) rfl (args':=[.slice 0 0 2 (some 2)]) rfl (concat_ok p.ci p.cs p.ins p.sts hl) (slU_refs _)
 have hf:∀ b d,frzV 0 b d (slU p.all) = some (slU p.all):=fun b d=>frzV_flat _ _ d _ (slU_refs _)
 unfold Cb.enc Cb.cells
 (refine sv Tryd.f51 ?_;simp only [Tryd.f51,gS])
 (repeat first|simp only [ww]|(apply xa;simp +decide only [go_sem,hc];rfl;kernel_rfl))
 (apply fqb;simp +decide only [go_sem,hf]<;>rfl)
theorem flat_call {d:Bool} (H:Heap) (p:Cb) (hl:p.ins.length + p.sts.length ≤ 100000):callV L.env d (sem L.env Mf) (.func (.func 51) [] []) [p.enc] H = some (slU p.all,H,[]):=
 callV_flat (by kernel_rfl) (by kernel_rfl) rfl (by simp [refsL,enc_refs]) (flat_ok p hl) (slU_refs _)
/-- Two cubes of one shape. -/
theorem chk2_ok (p q:Cb) (hp:p.ok) (hq:q.ok) (h1:p.ins.length = q.ins.length) (h2:p.sts.length = q.sts.length):sem L.env Mf 49 [p.enc,q.enc] [] = some (.int .i64 0,[]):=by
 have hcp:=check_call (d:=false) (p:=p) (h:=hp)
 have hcq:=check_call (d:=false) (p:=q) (h:=hq)
 unfold Cb.enc Cb.cells at hcp hcq ⊢
 have e1:((p.ins.length:Int) = q.ins.length) = True:=eq_true (by omega)
 have e2:((p.sts.length:Int) = q.sts.length) = True:=eq_true (by omega)
 suffices hs:∃ r:AV × Heap,(r = (.int .i64 0,[])) ∧ sem L.env Mf 49 [.agg [sl p.ci (p.ins.map u8R),sl p.cs (p.sts.map u8R)],.agg [sl q.ci (q.ins.map u8R),sl q.cs (q.sts.map u8R)]] [] = some r by
  obtain ⟨r,rfl,h3⟩:=hs
  exact h3
 (refine svE Tryd.f49 ?_;simp only [Tryd.f49,gS])
 (repeat first|simp only [ww]|(apply xa;simp +decide only [go_sem];rfl;kernel_rfl))
 refine xp_lp kp49_0 (fun n F H1=>∃ (i:Int),((i = 0 ∧ n = 2) ∨ (i = 1 ∧ n = 1) ∨ (i = 2 ∧ n = 0)) ∧ F = [(2,.ptr 0 0 0),(3,.ptr 1 0 0),(10,.slice 2 0 2 (some 2)),(11,.int .i64 2),(12,.int .i64 i)] ∧ H1 = [some (.row 2 [[sl p.ci (p.ins.map u8R),sl p.cs (p.sts.map u8R)]]),some (.row 2 [[sl q.ci (q.ins.map u8R),sl q.cs (q.sts.map u8R)]]),some (.row 2 [[sl p.ci (p.ins.map u8R),sl p.cs (p.sts.map u8R)],[sl q.ci (q.ins.map u8R),sl q.cs (q.sts.map u8R)]])]) 2 ?_ ?_
 ·refine ⟨_,_,?_,0,.inl ⟨rfl,rfl⟩,rfl,rfl⟩
  (simp +decide only [go_sem,gcD_eq,gcIds_eq]<;>rfl)<;>rfl
 ·rintro n F H1 ⟨i,h,rfl,rfl⟩
  rcases h with ⟨rfl,rfl⟩|⟨rfl,rfl⟩|⟨rfl,rfl⟩
  ·(repeat first|simp only [ww]|(apply xa;simp +decide only [go_sem,hcp];rfl;kernel_rfl))
   refine lpJ_n 1 (by omega) ⟨_,_,?_,1,.inr (.inl ⟨rfl,rfl⟩),rfl,rfl⟩
   (simp +decide only [go_sem,gcD_eq,gcIds_eq]<;>rfl)<;>rfl
  ·(repeat first|simp only [ww]|(apply xa;simp +decide only [go_sem,hcq];rfl;kernel_rfl))
   refine lpJ_n 0 (by omega) ⟨_,_,?_,2,.inr (.inr ⟨rfl,rfl⟩),rfl,rfl⟩
   (simp +decide only [go_sem,gcD_eq,gcIds_eq]<;>rfl)<;>rfl
  ·(repeat first|simp only [ww]|(apply xa;simp +decide only [go_sem,List.length_map,e1,e2];rfl;kernel_rfl))
   refine fqE_r (vs:=[.int .i64 0]) (r:=(_,_)) (by simp +decide only [go_sem]) ?_ rfl
   simp +decide only [go_sem,finish]<;>rfl
theorem chk2_call {d:Bool} (H:Heap) (p q:Cb) (hp:p.ok) (hq:q.ok) (h1:p.ins.length = q.ins.length) (h2:p.sts.length = q.sts.length):callV L.env d (sem L.env Mf) (.func (.func 49) [] []) [p.enc,q.enc] H = some (.int .i64 0,H,[]):=
 callV_flat (by kernel_rfl) (by kernel_rfl) rfl (by simp [refsL,enc_refs]) (chk2_ok p q hp hq h1 h2) rfl
/-- The two functions that are counted. -/
theorem dis1_ok (x y:Nat) (hx:x ≤ 2) (hy:y ≤ 2):sem L.env Mf 70 [.int .u8 x,.int .u8 y] [] = some (.bool (decide (x + y = 1)),[]):=by
 have hw:IntKind.u8.wrap ((x:Int) + (y:Int)) = ((x + y:Nat):Int):=by
  have:IntKind.u8.wrap ((x:Int) + (y:Int)) = ((x:Int) + y) % 256:=by simp [IntKind.wrap,IntKind.signed,IntKind.bits]
  rw [this];omega
 have hd:decide (((x + y:Nat):Int) = 1) = decide (x + y = 1):=by rw [Bool.eq_iff_iff,decide_eq_true_eq,decide_eq_true_eq];omega
 (refine sv Tryd.f70 ?_;simp only [Tryd.f70,gS])
 (repeat first|simp only [ww]|(apply xa;simp +decide only [go_sem,hw];rfl;kernel_rfl))
 (apply fqb;simp +decide only [go_sem,hd]<;>rfl)
theorem cov1_ok (x y:Nat):sem L.env Mf 55 [.int .u8 x,.int .u8 y] [] = some (.bool (!decide (x = 2) && !decide (x = y)),[]):=by
 have e1:decide ((x:Int) = 2) = decide (x = 2):=by rw [Bool.eq_iff_iff,decide_eq_true_eq,decide_eq_true_eq];omega
 have e2:decide ((x:Int) = y) = decide (x = y):=by rw [Bool.eq_iff_iff,decide_eq_true_eq,decide_eq_true_eq];omega
 by_cases h1:x = 2
 ·have c1:((x:Int) = 2) = True:=eq_true (by omega)
  rw [decide_eq_true h1]
  (refine sv Tryd.f55 ?_;simp only [Tryd.f55,gS])
  (repeat first|simp only [ww]|(apply xa;simp +decide only [go_sem,c1];rfl;kernel_rfl))
  (apply fqb;simp +decide only [go_sem]<;>rfl)
 ·have c1:((x:Int) = 2) = False:=eq_false (by omega)
  rw [decide_eq_false h1]
  (refine sv Tryd.f55 ?_;simp only [Tryd.f55,gS])
  (repeat first|simp only [ww]|(apply xa;simp +decide only [go_sem,c1];rfl;kernel_rfl))
  (apply fqb;simp +decide only [go_sem,e2]<;>rfl)
end Go.KInst
