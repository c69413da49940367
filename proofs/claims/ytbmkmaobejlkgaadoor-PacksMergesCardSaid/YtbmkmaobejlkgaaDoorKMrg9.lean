/- Part of a proof. No condition. -/
import Derived.Test.YtbmkmaobejlkgaaDoorKMrg8
set_option linter.unusedSimpArgs false
set_option linter.unusedVariables false
namespace Go.KInst
open Go.Proofs Go.Ax Go.Pc
set_option maxRecDepth 100000
def mrgC (a b:Cb):Cb:=⟨some (some a.ins.length),List.zipWith min a.ins b.ins,some (some a.sts.length),List.zipWith min a.sts b.sts⟩
theorem bitsM_ok (n m:Nat) (X Y:List (List AV)) (hX:FlatR X) (hY:FlatR Y):sem L.env Mf 52 [.agg [.slice 0 0 n (some n),.slice 1 0 m (some m)]] [some (.row 1 X),some (.row 1 Y)] =
 some (.func (.func 72) [] [.ptr 2 0 0],[some (.row 1 X),some (.row 1 Y),some (.row 2 [[.slice 0 0 n (some n),.slice 1 0 m (some m)]])]):=by
 (refine sv Tryd.f52 ?_;simp only [Tryd.f52,gS])
 (repeat first|simp only [ww]|(apply xa;simp +decide only [go_sem];rfl;kernel_rfl))
 (apply fqb;simp +decide only [go_sem,finish]<;>rfl)
theorem bitsM_call (n m:Nat) (X Y:List (List AV)) (hX:FlatR X) (hY:FlatR Y) (a b c d e f g:Option AObj) :
 callV L.env false (sem L.env Mf) (.func (.func 52) [] []) [.agg [.slice 5 0 n (some n),.slice 6 0 m (some m)]] [a,b,c,d,e,some (.row 1 X),some (.row 1 Y),f,g] =
 some (.func (.func 72) [] [.ptr 9 0 0],[a,b,c,d,e,some (.row 1 X),some (.row 1 Y),f,g,some (.row 2 [[.slice 5 0 n (some n),.slice 6 0 m (some m)]])],[5,6]):=by
 have h1:=refs_flatR hX
 have h2:=refs_flatR hY
 have h3:=fun π=>renR_flat π hX
 have h4:=fun π=>renR_flat π hY
 refine callV_le (by kernel_rfl) (by kernel_rfl) rfl ((callLoc_eq (sem L.env Mf 52) [.agg [.slice 5 0 n (some n),.slice 6 0 m (some m)]] _ (σ:=[5,6]) (by simp +decide only [go_sem,h1,h2]) rfl rfl (args':=[.agg [.slice 0 0 n (some n),.slice 1 0 m (some m)]]) rfl (H0:=_) (by simp only [smallH,List.map_cons,List.map_nil,HeapF,List.getElem?_cons_succ,List.getElem?_cons_zero,Option.join_some,Option.map_some,renObj,h3,h4]<;>rfl) (bitsM_ok n m X Y hX hY)).trans ?_) (by simp)
 simp +decide only [go_sem,h3,h4]<;>rfl
theorem mrg_ok (a b:Cb) (h:Shp a b) (hc:cmpB a b = true):sem L.env Mf 21 [a.enc,b.enc] [] = some (.tuple [(mrgC a b).enc,.int .i64 0],[]):=by
 have hl:=h.okp.1
 have hl2:=h.okq.1
 have hi:=h.ins
 have hs:=h.sts
 have hck:=chk2_call (d:=false) (p:=a) (q:=b) (hp:=h.okp) (hq:=h.okq) (h1:=h.ins) (h2:=h.sts)
 have hco:=compat_call (d:=false) (p:=a) (q:=b) (h:=h)
 rw [hc] at hco
 have how:=fun H=>own_call (d:=true) H a (by unfold Cb.n;omega)
 have hfl:=fun H=>flat_call (d:=true) H b (by omega)
 have hbm:=fun x y z u v f g=>bitsM_call a.ins.length a.sts.length (a.ins.map u8R) (a.sts.map u8R) (flatU _) (flatU _) x y z u v f g
 have hb2:=bits2_ok a.ins a.sts b.ins b.sts hi hs (by omega)
 unfold mrH at hb2
 have hu:=slU_refs (b.ins ++ b.sts)
 have hun:=fun π=>slU_ren π (b.ins ++ b.sts)
 have r1:=fun π=>renU π a.ins
 have r2:=fun π=>renU π a.sts
 have r3:=fun π=>renU π (List.zipWith min a.ins b.ins)
 have r4:=fun π=>renU π (List.zipWith min a.sts b.sts)
 have q1:=refsU a.ins
 have q2:=refsU a.sts
 have hcl:∀ x y z u v w,callLoc (sem L.env Mf 72) [.yfn 10,.ptr 9 0 0] [x,y,z,u,v,some (.row 1 (a.ins.map u8R)),some (.row 1 (a.sts.map u8R)),w,some (.row 1 [[slU (b.ins ++ b.sts)]]),some (.row 2 [[.slice 5 0 a.ins.length (some a.ins.length),.slice 6 0 a.sts.length (some a.sts.length)]]),some (.yloop 2100000 [(8,.ptr 8 0 0),(5100000,.junk)] .ready)] =
  some (.tuple [],[x,y,z,u,v,some (.row 1 ((List.zipWith min a.ins b.ins).map u8R)),some (.row 1 ((List.zipWith min a.sts b.sts).map u8R)),w,some (.row 1 [[slU (b.ins ++ b.sts)]]),some (.row 2 [[.slice 5 0 a.ins.length (some a.ins.length),.slice 6 0 a.sts.length (some a.sts.length)]]),some (.yloop 2100000 [(8,.ptr 8 0 0),(5100000,.junk)] .ready)],[10,8,9,5,6]):=by
  intro x y z u v w
  refine (callLoc_eq (sem L.env Mf 72) [.yfn 10,.ptr 9 0 0] _ (σ:=[10,8,9,5,6]) (by simp +decide only [go_sem,hu,q1,q2]) rfl rfl (args':=[.yfn 0,.ptr 2 0 0]) rfl (H0:=_) (by simp only [smallH,List.map_cons,List.map_nil,HeapF,List.getElem?_cons_succ,List.getElem?_cons_zero,Option.join_some,Option.map_some,renObj,hun,r1,r2]<;>rfl) hb2).trans ?_
  simp +decide only [go_sem,hun,r3,r4]<;>rfl
 unfold ownH at how
 unfold mrgC Cb.all at *
 unfold Cb.enc Cb.cells at *
 dsimp only at *
 (refine sv Tryd.f21 ?_;simp only [Tryd.f21,gS])
 (repeat first|simp only [ww]|(apply xa;simp +decide only [go_sem,hck,hco];rfl;kernel_rfl))
 (repeat first|simp only [ww]|((with_reducible first|apply xs2|apply xI);(·simp +decide only [go_sem,how,hfl,slU_cells,slU_sto,slU_junk];rfl);with_reducible first|apply xT|apply xF|(·kernel_rfl)))
 (repeat first|simp only [ww]|(apply xa;simp +decide only [go_sem,hbm];rfl;kernel_rfl))
 refine xp_rf kp21_0 (by simp +decide only [go_sem]<;>rfl) rfl (by kernel_rfl) (hcl _ _ _ _ _ _) ?_
 show bk 0 _ .normal _ [_,_,_,_,_,_,_,_,_,_,none]
 (repeat first|simp only [ww]|(apply xa;simp +decide only [go_sem];rfl;kernel_rfl))
 have t1:List.take a.ins.length ((List.zipWith min a.ins b.ins).map u8R) = (List.zipWith min a.ins b.ins).map u8R:=List.take_of_length_le (by simp;omega)
 have t2:List.take a.sts.length ((List.zipWith min a.sts b.sts).map u8R) = (List.zipWith min a.sts b.sts).map u8R:=List.take_of_length_le (by simp;omega)
 have k1:a.ins.length ≤ min a.ins.length b.ins.length:=by omega
 have k2:a.sts.length ≤ min a.sts.length b.sts.length:=by omega
 (apply fqb;simp +decide only [go_sem,t1,t2,k1,k2,frzU,List.length_map,List.length_zipWith]<;>rfl)
theorem mrg_call {d:Bool} (H:Heap) (a b:Cb) (h:Shp a b) (hc:cmpB a b = true):callV L.env d (sem L.env Mf) (.func (.func 21) [] []) [a.enc,b.enc] H = some (.tuple [(mrgC a b).enc,.int .i64 0],H,[]):=
 callV_flat (by kernel_rfl) (by kernel_rfl) rfl (by simp [refsL,enc_refs]) (mrg_ok a b h hc) (by simp [refs,refsL,enc_refs])
end Go.KInst
