/- Part of a proof. No condition. -/
import Derived.Test.YtbmkmaobejlkgaaDoorKMrg5
set_option linter.unusedSimpArgs false
set_option linter.unusedVariables false
namespace Go.KInst
open Go.Proofs Go.Ax Go.Pc
set_option maxRecDepth 100000
def disF (x y:Nat):Bool:=decide (x + y = 1)
def covF (x y:Nat):Bool:=!decide (x = 2) && !decide (x = y)
theorem dis_F:IsF (.func (.func 70) [] []) disF:=
 ⟨rfl,rfl,rfl,rfl,fun x y hx hy d H=>callV_flat (by kernel_rfl) (by kernel_rfl) rfl rfl (dis1_ok x y hx hy) rfl⟩
theorem cov_F:IsF (.func (.func 55) [] []) covF:=
 ⟨rfl,rfl,rfl,rfl,fun x y hx hy d H=>callV_flat (by kernel_rfl) (by kernel_rfl) rfl rfl (cov1_ok x y) rfl⟩
def Cb.n (p:Cb):Nat:=p.ins.length + p.sts.length
def cmpB (p q:Cb):Bool:=decide (cntZ disF p.all q.all p.n = 0)
def covB (p q:Cb):Bool:=decide (cntZ covF p.all q.all p.n = 0)
theorem dist_ok (p q:Cb) (h:Shp p q):sem L.env Mf 48 [p.enc,q.enc] [] = some (.int .i64 (cntZ disF p.all q.all p.n),[]):=by
 have hc:=count_call (d:=false) (p:=p) (q:=q) (h:=h) (hF:=dis_F)
 unfold Cb.enc Cb.cells at hc ⊢
 unfold Cb.n
 (refine sv Tryd.f48 ?_;simp only [Tryd.f48,gS])
 (repeat first|simp only [ww]|(apply xa;simp +decide only [go_sem,hc];rfl;kernel_rfl))
 (apply fqb;simp +decide only [go_sem]<;>rfl)
theorem dist_call {d:Bool} (H:Heap) (p q:Cb) (h:Shp p q):callV L.env d (sem L.env Mf) (.func (.func 48) [] []) [p.enc,q.enc] H = some (.int .i64 (cntZ disF p.all q.all p.n),H,[]):=
 callV_flat (by kernel_rfl) (by kernel_rfl) rfl (by simp [refsL,enc_refs]) (dist_ok p q h) rfl
theorem compat_ok (p q:Cb) (h:Shp p q):sem L.env Mf 20 [p.enc,q.enc] [] = some (.bool (cmpB p q),[]):=by
 have hc:=dist_call (d:=false) (p:=p) (q:=q) (h:=h)
 have hd:decide (((cntZ disF p.all q.all p.n:Nat):Int) = 0) = cmpB p q:=by unfold cmpB;rw [Bool.eq_iff_iff,decide_eq_true_eq,decide_eq_true_eq];omega
 unfold Cb.enc Cb.cells at hc ⊢
 (refine sv Tryd.f20 ?_;simp only [Tryd.f20,gS])
 (repeat first|simp only [ww]|(apply xa;simp +decide only [go_sem,hc];rfl;kernel_rfl))
 (apply fqb;simp +decide only [go_sem,hd]<;>rfl)
theorem compat_call {d:Bool} (H:Heap) (p q:Cb) (h:Shp p q):callV L.env d (sem L.env Mf) (.func (.func 20) [] []) [p.enc,q.enc] H = some (.bool (cmpB p q),H,[]):=
 callV_flat (by kernel_rfl) (by kernel_rfl) rfl (by simp [refsL,enc_refs]) (compat_ok p q h) rfl
theorem cov_ok (p q:Cb) (h:Shp p q):sem L.env Mf 23 [p.enc,q.enc] [] = some (.bool (covB p q),[]):=by
 have hc:=count_call (d:=false) (p:=p) (q:=q) (h:=h) (hF:=cov_F)
 have hd:decide (((cntZ covF p.all q.all (p.ins.length + p.sts.length):Nat):Int) = 0) = covB p q:=by unfold covB Cb.n;rw [Bool.eq_iff_iff,decide_eq_true_eq,decide_eq_true_eq];omega
 unfold Cb.enc Cb.cells at hc ⊢
 (refine sv Tryd.f23 ?_;simp only [Tryd.f23,gS])
 (repeat first|simp only [ww]|(apply xa;simp +decide only [go_sem,hc];rfl;kernel_rfl))
 (apply fqb;simp +decide only [go_sem,hd]<;>rfl)
theorem cov_call {d:Bool} (H:Heap) (p q:Cb) (h:Shp p q):callV L.env d (sem L.env Mf) (.func (.func 23) [] []) [p.enc,q.enc] H = some (.bool (covB p q),H,[]):=
 callV_flat (by kernel_rfl) (by kernel_rfl) rfl (by simp [refsL,enc_refs]) (cov_ok p q h) rfl
/-- slices.Equal, of two immutable lists of one length. -/
def eqU (a b:List Nat):Bool:=decide (a = b)
theorem equal_ok (ca cb:Option (Option Nat)) (a b:List Nat) (hl:a.length = b.length) (h5:a.length ≤ 100000):sem L.env Mf 53 [sl ca (a.map u8R),sl cb (b.map u8R)] [] = some (.bool (eqU a b),[]):=by
 suffices hs:∃ r:AV × Heap,(r = (.bool (eqU a b),[])) ∧ sem L.env Mf 53 [sl ca (a.map u8R),sl cb (b.map u8R)] [] = some r by
  obtain ⟨r,rfl,h3⟩:=hs
  exact h3
 have e1:((a.length:Int) = b.length) = True:=eq_true (by omega)
 (refine svE Tryd.f53 ?_;simp only [Tryd.f53,gS])
 (repeat first|simp only [ww]|(apply xa;simp +decide only [go_sem,List.length_map,e1];rfl;kernel_rfl))
 refine xp_lp kp53_0 (fun q F H1=>∃ i:Nat,q = a.length - i ∧ i ≤ a.length ∧ F = [(0,sl ca (a.map u8R)),(1,sl cb (b.map u8R)),(12,.int .i64 a.length),(13,.int .i64 i)] ∧ H1 = [] ∧ a.take i = b.take i) a.length ?_ ?_
 ·refine ⟨_,_,?_,0,rfl,Nat.zero_le _,rfl,rfl,rfl⟩
  (simp +decide only [go_sem,gcD_eq,gcIds_eq]<;>rfl)<;>rfl
 ·rintro q F H1 ⟨i,rfl,hi,rfl,rfl,hinv⟩
  by_cases hlt:i < a.length
  ·obtain ⟨x,hx⟩:∃ x,a[i]? = some x:=⟨_,List.getElem?_eq_getElem hlt⟩
   obtain ⟨y,hy⟩:∃ y,b[i]? = some y:=⟨_,List.getElem?_eq_getElem (by omega)⟩
   have hga:(a.map u8R)[i]? = some [.int .u8 x]:=by rw [List.getElem?_map,hx];rfl
   have hgb:(b.map u8R)[i]? = some [.int .u8 y]:=by rw [List.getElem?_map,hy];rfl
   have c1:(i:Int) < a.length:=by omega
   have hw:=wI1 (n:=i) (by omega)
   have hlt2:i < b.length:=by omega
   by_cases hxy:x = y
   ·have e2:((x:Int) = y) = True:=eq_true (by omega)
    (repeat first|simp only [ww]|(apply xa;simp +decide only [go_sem,c1];rfl;kernel_rfl))
    (repeat first|simp only [ww]|((with_reducible first|apply xs2|apply xI);(·simp +decide only [go_sem,hga,hgb,hlt,hlt2,e2,hw,List.length_map];rfl);with_reducible first|apply xT|apply xF|(·kernel_rfl)))
    refine lpJ_n (a.length - (i + 1)) (by omega) ⟨_,_,?_,i + 1,rfl,hlt,rfl,rfl,by rw [List.take_add_one,List.take_add_one,hx,hy,hinv,hxy]⟩
    (simp +decide only [go_sem,gcD_eq,gcIds_eq]<;>rfl)<;>rfl
   ·have e2:((x:Int) = y) = False:=eq_false (by omega)
    (repeat first|simp only [ww]|(apply xa;simp +decide only [go_sem,c1];rfl;kernel_rfl))
    (repeat first|simp only [ww]|((with_reducible first|apply xs2|apply xI);(·simp +decide only [go_sem,hga,hgb,hlt,hlt2,e2,List.length_map];rfl);with_reducible first|apply xT|apply xF|(·kernel_rfl)))
    refine fqE_r (vs:=[.bool false]) (r:=(_,_)) (by simp +decide only [go_sem]) (by simp +decide only [go_sem,finish]<;>rfl) ?_
    unfold eqU
    rw [decide_eq_false (fun e=>by rw [e,hy] at hx;exact hxy (Option.some.inj hx).symm)]
  ·obtain rfl:i = a.length:=by omega
   have c1:¬ (a.length:Int) < a.length:=by omega
   rw [List.take_length,hl,List.take_length] at hinv
   (repeat first|simp only [ww]|(apply xa;simp +decide only [go_sem,c1];rfl;kernel_rfl))
   refine fqE_n (vs:=[.bool true]) (r:=(_,_)) (by simp +decide only [go_sem]) (by simp +decide only [go_sem,finish]<;>rfl) ?_
   unfold eqU
   rw [decide_eq_true hinv]
theorem same_ok (p q:Cb) (h1:p.ins = q.ins) (h2:p.sts = q.sts) (h5:p.n ≤ 100000):sem L.env Mf 22 [p.enc,q.enc] [] = some (.bool true,[]):=by
 unfold Cb.n at h5
 have hc1:=fun H=>callV_flat (E:=L.env) (draw:=false) (call:=sem L.env Mf) (g:=53) (fs:=[]) (cs:=[]) (ar:=[sl p.ci (p.ins.map u8R),sl q.ci (q.ins.map u8R)]) (H:=H) (by kernel_rfl) (by kernel_rfl) rfl (by simp +decide only [go_sem]) (equal_ok p.ci q.ci p.ins q.ins (by rw [h1]) (by omega)) rfl
 have hc2:=fun H=>callV_flat (E:=L.env) (draw:=false) (call:=sem L.env Mf) (g:=53) (fs:=[]) (cs:=[]) (ar:=[sl p.cs (p.sts.map u8R),sl q.cs (q.sts.map u8R)]) (H:=H) (by kernel_rfl) (by kernel_rfl) rfl (by simp +decide only [go_sem]) (equal_ok p.cs q.cs p.sts q.sts (by rw [h2]) (by omega)) rfl
 have e1:eqU p.ins q.ins = true:=decide_eq_true h1
 have e2:eqU p.sts q.sts = true:=decide_eq_true h2
 rw [e1] at hc1
 rw [e2] at hc2
 unfold Cb.enc Cb.cells
 (refine sv Tryd.f22 ?_;simp only [Tryd.f22,gS])
 (repeat first|simp only [ww]|(apply xa;simp +decide only [go_sem,hc1,hc2];rfl;kernel_rfl))
 (apply fqb;simp +decide only [go_sem]<;>rfl)
theorem same_call {d:Bool} (H:Heap) (p q:Cb) (h1:p.ins = q.ins) (h2:p.sts = q.sts) (h5:p.n ≤ 100000):callV L.env d (sem L.env Mf) (.func (.func 22) [] []) [p.enc,q.enc] H = some (.bool true,H,[]):=
 callV_flat (by kernel_rfl) (by kernel_rfl) rfl (by simp [refsL,enc_refs]) (same_ok p q h1 h2 h5) rfl
end Go.KInst
