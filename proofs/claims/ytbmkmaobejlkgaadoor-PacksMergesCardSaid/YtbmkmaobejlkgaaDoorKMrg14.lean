/- Part of a proof. No condition. -/
import Derived.Test.YtbmkmaobejlkgaaDoorKMrg13
set_option linter.unusedSimpArgs false
set_option linter.unusedVariables false
namespace Go.KInst
open Go.Proofs Go.Ax Go.Pc
set_option maxRecDepth 100000
theorem valN {d:Bool} (H:Heap):callV L.env d (sem L.env Mf) (.func (.func 67) [] []) [.nilslice] H = some (.nilslice,H,[]):=
 callV_flat (by kernel_rfl) (by kernel_rfl) rfl rfl (values_ok [] .nilslice [] (.nil rfl) (by simp) (by simp)) rfl
theorem valB {d:Bool} {H:Heap} {b:Nat} {l:List Nat} (h0:l ≠ []) (hl:l.length ≤ 1000) (hb:∀ x ∈ l,x < 256) (hh:HeapF H b = some (.row 1 (l.map u8R))):callV L.env d (sem L.env Mf) (.func (.func 67) [] []) [.slice b 0 l.length none] H = some (slU (m3 l),H,[b]):=
 callV_one (b:=b) (by kernel_rfl) (by kernel_rfl) rfl hh (refsO_flat (flatU l)) (FlatO.row (flatU l)) rfl (args':=[.slice 0 0 l.length none]) (by simp only [List.nil_append,List.append_nil,List.map_cons,List.map_nil,ren_slice1]) (values_ok l _ _ (.blk h0) hl hb) (slU_refs _)
section
variable (a b:List Nat) (ha:a ≠ []) (hb:b ≠ []) (la:a.length ≤ 1000) (lb:b.length ≤ 1000) (ba:∀ x ∈ a,x < 256) (bb:∀ x ∈ b,x < 256)
theorem of_nn:sem L.env Mf 41 [.agg [.nilslice,.nilslice]] [] = some (.agg [slU (m3 []),slU (m3 [])],[]):=by
 have h1:=fun H=>valN (d:=true) H
 have e:slU (m3 []) = .nilslice:=rfl
 rw [e]
 (refine sv Tryd.f41 ?_;simp only [Tryd.f41,gS])
 (repeat first|simp only [ww]|(apply xa;simp +decide only [go_sem];rfl;kernel_rfl))
 (repeat first|simp only [ww]|((with_reducible first|apply xs2|apply xI);(·simp +decide only [go_sem,h1];rfl);with_reducible first|apply xT|apply xF|(·kernel_rfl)))
 (apply fqb;simp +decide only [go_sem]<;>rfl)
include ha la ba in
theorem of_bn:sem L.env Mf 41 [.agg [.slice 0 0 a.length none,.nilslice]] [some (.row 1 (a.map u8R))] = some (.agg [slU (m3 a),slU (m3 [])],[some (.row 1 (a.map u8R))]):=by
 have h1:=fun H=>valN (d:=true) H
 have h2:∀ X Y,callV L.env true (sem L.env Mf) (.func (.func 67) [] []) [.slice 0 0 a.length none] [some (.row 1 (a.map u8R)),X,Y] = some (slU (m3 a),[some (.row 1 (a.map u8R)),X,Y],[0]):=fun X Y=>valB ha la ba rfl
 have e:slU (m3 []) = .nilslice:=rfl
 have hf:∀ m d f,frzV m d f (slU (m3 a)) = some (slU (m3 a)):=fun m d f=>frzV_flat _ _ f _ (slU_refs _)
 rw [e]
 (refine sv Tryd.f41 ?_;simp only [Tryd.f41,gS])
 (repeat first|simp only [ww]|(apply xa;simp +decide only [go_sem];rfl;kernel_rfl))
 (repeat first|simp only [ww]|((with_reducible first|apply xs2|apply xI);(·simp +decide only [go_sem,h1,h2,slU_cells,slU_sto,slU_junk];rfl);with_reducible first|apply xT|apply xF|(·kernel_rfl)))
 (apply fqb;simp +decide only [go_sem,hf,renU]<;>rfl)
include hb lb bb in
theorem of_nb:sem L.env Mf 41 [.agg [.nilslice,.slice 0 0 b.length none]] [some (.row 1 (b.map u8R))] = some (.agg [slU (m3 []),slU (m3 b)],[some (.row 1 (b.map u8R))]):=by
 have h1:=fun H=>valN (d:=true) H
 have h2:∀ X Y,callV L.env true (sem L.env Mf) (.func (.func 67) [] []) [.slice 0 0 b.length none] [some (.row 1 (b.map u8R)),X,Y] = some (slU (m3 b),[some (.row 1 (b.map u8R)),X,Y],[0]):=fun X Y=>valB hb lb bb rfl
 have e:slU (m3 []) = .nilslice:=rfl
 have hf:∀ m d f,frzV m d f (slU (m3 b)) = some (slU (m3 b)):=fun m d f=>frzV_flat _ _ f _ (slU_refs _)
 rw [e]
 (refine sv Tryd.f41 ?_;simp only [Tryd.f41,gS])
 (repeat first|simp only [ww]|(apply xa;simp +decide only [go_sem];rfl;kernel_rfl))
 (repeat first|simp only [ww]|((with_reducible first|apply xs2|apply xI);(·simp +decide only [go_sem,h1,h2,slU_cells,slU_sto,slU_junk];rfl);with_reducible first|apply xT|apply xF|(·kernel_rfl)))
 (apply fqb;simp +decide only [go_sem,hf,renU]<;>rfl)
include ha hb la lb ba bb in
theorem of_bb:sem L.env Mf 41 [.agg [.slice 0 0 a.length none,.slice 1 0 b.length none]] [some (.row 1 (a.map u8R)),some (.row 1 (b.map u8R))] = some (.agg [slU (m3 a),slU (m3 b)],[some (.row 1 (a.map u8R)),some (.row 1 (b.map u8R))]):=by
 have h1:∀ X Y Z,callV L.env true (sem L.env Mf) (.func (.func 67) [] []) [.slice 0 0 a.length none] [some (.row 1 (a.map u8R)),X,Y,Z] = some (slU (m3 a),[some (.row 1 (a.map u8R)),X,Y,Z],[0]):=fun X Y Z=>valB ha la ba rfl
 have h2:∀ X Y Z,callV L.env true (sem L.env Mf) (.func (.func 67) [] []) [.slice 1 0 b.length none] [X,some (.row 1 (b.map u8R)),Y,Z] = some (slU (m3 b),[X,some (.row 1 (b.map u8R)),Y,Z],[1]):=fun X Y Z=>valB hb lb bb rfl
 have hf:∀ m d f,frzV m d f (slU (m3 a)) = some (slU (m3 a)):=fun m d f=>frzV_flat _ _ f _ (slU_refs _)
 have hg:∀ m d f,frzV m d f (slU (m3 b)) = some (slU (m3 b)):=fun m d f=>frzV_flat _ _ f _ (slU_refs _)
 (refine sv Tryd.f41 ?_;simp only [Tryd.f41,gS])
 (repeat first|simp only [ww]|(apply xa;simp +decide only [go_sem];rfl;kernel_rfl))
 (repeat first|simp only [ww]|((with_reducible first|apply xs2|apply xI);(·simp +decide only [go_sem,h1,h2,slU_cells,slU_sto,slU_junk];rfl);with_reducible first|apply xT|apply xF|(·kernel_rfl)))
 (apply fqb;simp +decide only [go_sem,hf,hg,renU]<;>rfl)
end
end Go.KInst
