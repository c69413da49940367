/- Part of a proof. No condition. -/
import Derived.Test.YtbmkmaobejlkgaaDoorKMrg1
set_option linter.unusedSimpArgs false
set_option linter.unusedVariables false
namespace Go.KInst
open Go.Proofs Go.Ax Go.Pc
set_option maxRecDepth 100000
theorem yno:∀ x ∈ Mf,x.g ≠ yId:=by decide
theorem yfn0:L.env.fn yId = none:=by kernel_rfl
/-- A round of Check. -/
theorem checkR (i v:Nat) (hv:v ≤ 2):sem L.env Mf yId [.yfn 0,.int .i64 i,.iptr [.int .u8 v]] [some (.yloop 4200000 [(2,.ptr 1 0 0),(7200000,.junk)] .ready),some (.row 1 [[.int .i64 0]])] = some (.bool true,[some (.yloop 4200000 [(2,.ptr 1 0 0),(7200000,.junk)] .ready),some (.row 1 [[.int .i64 0]])]):=by
 have hri:L.env.G.rnd 4200000 = lookRF 0 (rfs 21 42 0 (Tryd.f42.body.getD .skip)):=by kernel_rfl
 simp only [Tryd.f42,gS,rfs,lookRF,List.append_nil,List.nil_append,List.cons_append,beqN,decide_true,cond_true,cond_false,reduceCtorEq,Nat.reduceEqDiff,decide_false] at hri
 have c1:¬ (2:Int) < (v:Int):=by omega
 refine sem_round yno yfn0 rfl hri rfl rfl ?_
 simp only [setsF_cons,setsF_nil]
 (repeat first|simp only [ww]|(apply xa;simp +decide only [go_sem];rfl;kernel_rfl))
 refine ryA_i rfl ?_
 (repeat first|simp only [ww]|(apply xa;simp +decide only [go_sem,c1];rfl;kernel_rfl))
 exact ryE_i rfl rfl
theorem checkR_call (d:Bool) (i v:Nat) (hv:v ≤ 2):callV L.env d (sem L.env Mf) (.yfn 0) [.int .i64 i,.iptr [.int .u8 v]] [some (.yloop 4200000 [(2,.ptr 1 0 0),(7200000,.junk)] .ready),some (.row 1 [[.int .i64 0]])] = some (.bool true,[some (.yloop 4200000 [(2,.ptr 1 0 0),(7200000,.junk)] .ready),some (.row 1 [[.int .i64 0]])],[0,1]):=by
 refine yfn_eq ((callLoc_eq (sem L.env Mf yId) [.yfn 0,.int .i64 i,.iptr [.int .u8 v]] [some (.yloop 4200000 [(2,.ptr 1 0 0),(7200000,.junk)] .ready),some (.row 1 [[.int .i64 0]])] (σ:=[0,1]) (by simp +decide only [go_sem]) rfl rfl (args':=[.yfn 0,.int .i64 i,.iptr [.int .u8 v]]) rfl (H0:=[some (.yloop 4200000 [(2,.ptr 1 0 0),(7200000,.junk)] .ready),some (.row 1 [[.int .i64 0]])]) rfl (checkR i v hv)).trans ?_) rfl
 rfl
/-- A cube whose bits are values. -/
def Cb.ok (p:Cb):Prop:=p.ins.length + p.sts.length ≤ 16384 ∧ ∀ v ∈ p.all,v ≤ 2
theorem refs_cells (p:Cb):refs (.iptr p.cells) = []:=by unfold Cb.cells;simp +decide only [go_sem]
theorem check_ok (p:Cb) (h:p.ok):sem L.env Mf 42 [p.enc] [] = some (.int .i64 0,[]):=by
 have hl:=h.1
 have hb1:=bits1_ok p (by omega) (fun _=>[some (.yloop 4200000 [(2,.ptr 1 0 0),(7200000,.junk)] .ready),some (.row 1 [[.int .i64 0]])]) 2 (fun _=>rfl) (by omega) (by
  intro i b c hc
  match b with
  | 0=>simp [HeapF,refsO,refsF,refs] at hc;omega
  | 1=>simp [HeapF,refsO,refsL,refs] at hc
  | b + 2=>simp [HeapF,refsO] at hc) (by intro i;simp [refsO,refsF,refsL,refs]) (fun i v hv=>⟨[0,1],fun d=>checkR_call d i v (h.2 v (List.mem_of_getElem? hv))⟩)
 have hbf:=fun H=>bitsF_call (d:=false) H p
 have hrc:=refs_cells p
 have hrn:∀ π,ren π (.iptr p.cells) = .iptr p.cells:=fun π=>ren_flat π _ hrc
 have hw:IntKind.i64.wrap ((p.ins.length:Int) + (p.sts.length:Int)) = ((p.ins.length + p.sts.length:Nat):Int):=by rw [w64 (by omega) (by omega)];omega
 have c1:¬ (16384:Int) < ((p.ins.length + p.sts.length:Nat):Int):=by omega
 suffices hs:∃ r:AV × Heap,(r = (.int .i64 0,[])) ∧ sem L.env Mf 42 [p.enc] [] = some r by
  obtain ⟨r,rfl,h3⟩:=hs
  exact h3
 have hcl:callLoc (sem L.env Mf 72) [.yfn 2,.iptr p.cells] [some (.row 2 [p.cells]),some (.row 1 [[.int .i64 0]]),some (.yloop 4200000 [(2,.ptr 1 0 0),(7200000,.junk)] .ready)] = some (.tuple [],[some (.row 2 [p.cells]),some (.row 1 [[.int .i64 0]]),some (.yloop 4200000 [(2,.ptr 1 0 0),(7200000,.junk)] .ready)],[2,1]):=(callLoc_eq (sem L.env Mf 72) [.yfn 2,.iptr p.cells] [some (.row 2 [p.cells]),some (.row 1 [[.int .i64 0]]),some (.yloop 4200000 [(2,.ptr 1 0 0),(7200000,.junk)] .ready)] (σ:=[2,1]) (by simp +decide only [go_sem,hrc]) rfl rfl (args':=[.yfn 0,.iptr p.cells]) (by simp +decide only [go_sem,hrn]<;>rfl) (H0:=[some (.yloop 4200000 [(2,.ptr 1 0 0),(7200000,.junk)] .ready),some (.row 1 [[.int .i64 0]])]) (by rfl) hb1).trans rfl
 obtain ⟨ci,ins,cs,sts⟩:=p
 unfold Cb.enc at hbf ⊢
 unfold Cb.cells at hbf hrc hrn hcl ⊢
 dsimp only at *
 (refine svE Tryd.f42 ?_;simp only [Tryd.f42,gS])
 (repeat first|simp only [ww]|(apply xa;simp +decide only [go_sem,List.length_map,hw,c1,hbf];rfl;kernel_rfl))
 refine xp_rf kp42_0 (by simp +decide only [go_sem]<;>rfl) rfl (by kernel_rfl) hcl ?_
 show bk 0 _ .normal _ [_,_,none]
 (repeat first|simp only [ww]|(apply xa;simp +decide only [go_sem];rfl;kernel_rfl))
 refine fqE_r (vs:=[.int .i64 0]) (r:=(_,_)) (by simp +decide only [go_sem]) ?_ rfl
 simp +decide only [go_sem,finish]<;>rfl
theorem enc_refs (p:Cb):refs p.enc = []:=by unfold Cb.enc Cb.cells;simp +decide only [go_sem]
theorem check_call {d:Bool} (H:Heap) (p:Cb) (h:p.ok):callV L.env d (sem L.env Mf) (.func (.func 42) [] []) [p.enc] H = some (.int .i64 0,H,[]):=
 callV_flat (by kernel_rfl) (by kernel_rfl) rfl (by simp [refsL,enc_refs]) (check_ok p h) rfl
end Go.KInst
