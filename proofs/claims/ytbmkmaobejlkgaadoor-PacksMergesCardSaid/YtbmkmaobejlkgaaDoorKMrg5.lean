/- Part of a proof. No condition. -/
import Derived.Test.YtbmkmaobejlkgaaDoorKMrg4
set_option linter.unusedSimpArgs false
set_option linter.unusedVariables false
namespace Go.KInst
open Go.Proofs Go.Ax Go.Pc
set_option maxRecDepth 100000
/-- How many bits of two cubes meet a condition, of the first so many. -/
def cntZ (f:Nat → Nat → Bool) (a b:List Nat) (i:Nat):Nat:=((a.zip b).take i).countP fun z=>f z.1 z.2
theorem cntZ_succ {f:Nat → Nat → Bool} {a b:List Nat} {i x y:Nat} (hx:a[i]? = some x) (hy:b[i]? = some y):cntZ f a b (i + 1) = cntZ f a b i + if f x y then 1 else 0:=by
 unfold cntZ
 have hz:(a.zip b)[i]? = some (x,y):=by rw [List.getElem?_zip_eq_some];exact ⟨hx,hy⟩
 rw [List.take_add_one,hz,List.countP_append]
 simp only [Option.toList_some,List.countP_cons,List.countP_nil,Nat.zero_add]
theorem cntZ_le (f:Nat → Nat → Bool) (a b:List Nat) (i:Nat):cntZ f a b i ≤ i:=by
 unfold cntZ
 exact Nat.le_trans List.countP_le_length (by simp;omega)
theorem slU_ren (π:Nat → Option Nat) (l:List Nat):ren π (slU l) = slU l:=ren_flat π _ (slU_refs l)
theorem slU_cells (l:List Nat):(slU l).cells = [slU l]:=by cases l<;>rfl
theorem slU_sto (l:List Nat):(slU l).storable = true:=by cases l<;>rfl
theorem slU_junk (l:List Nat):(slU l).isJunk = false:=by cases l<;>rfl
/-- A value that counts: what calls of it come to. -/
def IsF (FV:AV) (f:Nat → Nat → Bool):Prop:=refs FV = [] ∧ AV.cells FV = [FV] ∧ AV.storable FV = true ∧ AV.isJunk FV = false ∧ ∀ (x y:Nat),x ≤ 2 → y ≤ 2 → ∀ d H,callV L.env d (sem L.env Mf) FV [.int .u8 x,.int .u8 y] H = some (.bool (f x y),H,[])
def HsC (FV:AV) (f:Nat → Nat → Bool) (a b:List Nat) (i:Nat):Heap:=[some (.yloop 5400000 [(5,.ptr 1 0 0),(6,.ptr 2 0 0),(7,.ptr 3 0 0),(8400000,.junk)] .ready),some (.row 1 [[FV]]),some (.row 1 [[.int .i64 (cntZ f a b i)]]),some (.row 1 [[slU b]])]
theorem countR (FV:AV) (f:Nat → Nat → Bool) (hF:IsF FV f) (a b:List Nat) (i x y:Nat) (hx:a[i]? = some x) (hy:b[i]? = some y) (hx2:x ≤ 2) (hy2:y ≤ 2) (hi:i < 100000):sem L.env Mf yId [.yfn 0,.int .i64 i,.iptr [.int .u8 x]] (HsC FV f a b i) = some (.bool true,HsC FV f a b (i + 1)):=by
 have hri:L.env.G.rnd 5400000 = lookRF 0 (rfs 32 54 0 (Tryd.f54.body.getD .skip)):=by kernel_rfl
 simp only [Tryd.f54,gS,rfs,lookRF,List.append_nil,List.nil_append,List.cons_append,beqN,decide_true,cond_true,cond_false,reduceCtorEq,Nat.reduceEqDiff,decide_false] at hri
 obtain ⟨h1,h2,h3,h4,h5⟩:=hF
 have hc:=fun H=>h5 x y hx2 hy2 true H
 have hst:=cntZ_succ (f:=f) hx hy
 have hle:=cntZ_le f a b i
 have hw:=wI1 (n:=cntZ f a b i) (by omega)
 have hg:(b.map u8R)[i]? = some [.int .u8 y]:=by rw [List.getElem?_map,hy];rfl
 have hlt:=(List.getElem?_eq_some_iff.1 hy).1
 have hne:b ≠ []:=by intro e;rw [e] at hlt;simp at hlt
 have hsl:=slU_ne hne
 unfold HsC
 rw [hsl]
 refine sem_round yno yfn0 rfl hri rfl rfl ?_
 simp only [setsF_cons,setsF_nil]
 (repeat first|simp only [ww]|(apply xa;simp +decide only [go_sem];rfl;kernel_rfl))
 refine ryA_i rfl ?_
 by_cases hf:f x y = true
 ·rw [hf] at hc hst
  rw [if_pos rfl] at hst
  (repeat first|simp only [ww]|((with_reducible first|apply xs2|apply xI);(·simp +decide only [go_sem,hg,hlt,hc,List.length_map,hw];rfl);with_reducible first|apply xT|apply xF|(·kernel_rfl)))
  rw [hst]
  exact ryE_i rfl rfl
 ·have hf:f x y = false:=by simpa using hf
  rw [hf] at hc hst
  rw [if_neg (by decide),Nat.add_zero] at hst
  (repeat first|simp only [ww]|((with_reducible first|apply xs2|apply xI);(·simp +decide only [go_sem,hg,hlt,hc,List.length_map];rfl);with_reducible first|apply xT|apply xF|(·kernel_rfl)))
  rw [hst]
  exact ryE_i rfl rfl
theorem countR_call (d:Bool) (FV:AV) (f:Nat → Nat → Bool) (hF:IsF FV f) (a b:List Nat) (i x y:Nat) (hx:a[i]? = some x) (hy:b[i]? = some y) (hx2:x ≤ 2) (hy2:y ≤ 2) (hi:i < 100000):callV L.env d (sem L.env Mf) (.yfn 0) [.int .i64 i,.iptr [.int .u8 x]] (HsC FV f a b i) = some (.bool true,HsC FV f a b (i + 1),[0,1,2,3]):=by
 have hr:=countR FV f hF a b i x y hx hy hx2 hy2 hi
 have h1:=hF.1
 have h2:∀ π,ren π FV = FV:=fun π=>ren_flat π _ h1
 have h3:=slU_refs b
 have h4:=fun π=>slU_ren π b
 unfold HsC at hr ⊢
 refine yfn_eq ((callLoc_eq (sem L.env Mf yId) [.yfn 0,.int .i64 i,.iptr [.int .u8 x]] _ (σ:=[0,1,2,3]) (by simp +decide only [go_sem,h1,h3]) rfl rfl (args':=[.yfn 0,.int .i64 i,.iptr [.int .u8 x]]) rfl (H0:=_) (by simp only [smallH,List.map_cons,List.map_nil,HeapF,List.getElem?_cons_succ,List.getElem?_cons_zero,Option.join_some,Option.map_some,renObj,h2,h4];rfl) hr).trans ?_) rfl
 simp +decide only [go_sem,h2,h4]<;>rfl
theorem HsC_len (FV:AV) (f:Nat → Nat → Bool) (a b:List Nat) (i:Nat):(HsC FV f a b i).length = 4:=by rfl
/-- Two valid cubes of one shape. -/
structure Shp (p q:Cb):Prop where
 okp:p.ok
 okq:q.ok
 ins:p.ins.length = q.ins.length
 sts:p.sts.length = q.sts.length
theorem Shp.len {p q:Cb} (h:Shp p q):p.all.length = q.all.length:=by
 unfold Cb.all;rw [List.length_append,List.length_append,h.ins,h.sts]
theorem count_ok (p q:Cb) (h:Shp p q) (FV:AV) (f:Nat → Nat → Bool) (hF:IsF FV f):sem L.env Mf 54 [p.enc,q.enc,FV] [] = some (.int .i64 (cntZ f p.all q.all (p.ins.length + p.sts.length)),[]):=by
 have hp1:=h.okp.1
 have hq1:=h.okq.1
 have h1:=hF.1
 obtain ⟨_,h2,h3,h4,_⟩:=id hF
 have hn:∀ π,ren π FV = FV:=fun π=>ren_flat π _ h1
 have g1:=slU_refs q.all
 have g2:=fun π=>slU_ren π q.all
 have hl:=h.len
 have hb1:=bits1_ok p (by omega) (HsC FV f p.all q.all) 4 (fun i=>HsC_len FV f p.all q.all i) (by omega) (by
  intro i b c hc
  unfold HsC at hc
  match b with
  | 0=>simp [HeapF,refsO,refsF,refs] at hc;omega
  | 1=>simp [HeapF,refsO,refsL,refs,h1] at hc
  | 2=>simp [HeapF,refsO,refsL,refs] at hc
  | 3=>simp [HeapF,refsO,refsL,refs,g1] at hc
  | b + 4=>simp [HeapF,refsO] at hc) (by intro i;unfold HsC;simp [refsO,refsF,refsL,refs,h1,g1]) (fun i v hv=>by
   have hil:=(List.getElem?_eq_some_iff.1 hv).1
   obtain ⟨y,hy⟩:∃ y,q.all[i]? = some y:=⟨_,List.getElem?_eq_getElem (by omega)⟩
   have hle:p.all.length = p.ins.length + p.sts.length:=by unfold Cb.all;simp
   exact ⟨[0,1,2,3],fun d=>countR_call d FV f hF p.all q.all i v y hv hy (h.okp.2 v (List.mem_of_getElem? hv)) (h.okq.2 y (List.mem_of_getElem? hy)) (by omega)⟩)
 have hck:=chk2_call (d:=false) (p:=p) (q:=q) (hp:=h.okp) (hq:=h.okq) (h1:=h.ins) (h2:=h.sts)
 have hfl:=fun H=>flat_call (d:=false) H q (by omega)
 have hbf:=fun H=>bitsF_call (d:=false) H p
 have hrc:=refs_cells p
 have hrn:∀ π,ren π (.iptr p.cells) = .iptr p.cells:=fun π=>ren_flat π _ hrc
 have hT:HsC FV f p.all q.all 0 = [some (.yloop 5400000 [(5,.ptr 1 0 0),(6,.ptr 2 0 0),(7,.ptr 3 0 0),(8400000,.junk)] .ready),some (.row 1 [[FV]]),some (.row 1 [[.int .i64 0]]),some (.row 1 [[slU q.all]])]:=by unfold HsC cntZ;simp
 have hcl:∀ X Y,callLoc (sem L.env Mf 72) [.yfn 5,.iptr p.cells] [X,Y,some (.row 1 [[FV]]),some (.row 1 [[.int .i64 0]]),some (.row 1 [[slU q.all]]),some (.yloop 5400000 [(5,.ptr 2 0 0),(6,.ptr 3 0 0),(7,.ptr 4 0 0),(8400000,.junk)] .ready)] =
  some (.tuple [],[X,Y,some (.row 1 [[FV]]),some (.row 1 [[.int .i64 (cntZ f p.all q.all (p.ins.length + p.sts.length))]]),some (.row 1 [[slU q.all]]),some (.yloop 5400000 [(5,.ptr 2 0 0),(6,.ptr 3 0 0),(7,.ptr 4 0 0),(8400000,.junk)] .ready)],[5,2,3,4]):=by
  intro X Y
  rw [hT] at hb1
  unfold HsC at hb1
  refine (callLoc_eq (sem L.env Mf 72) [.yfn 5,.iptr p.cells] _ (σ:=[5,2,3,4]) (by simp +decide only [go_sem,hrc,h1,g1]) rfl rfl (args':=[.yfn 0,.iptr p.cells]) (by simp +decide only [go_sem,hrn]<;>rfl) (H0:=_) (by simp only [smallH,List.map_cons,List.map_nil,HeapF,List.getElem?_cons_succ,List.getElem?_cons_zero,Option.join_some,Option.map_some,renObj,hn,g2];rfl) hb1).trans ?_
  simp +decide only [go_sem,hn,g2]<;>rfl
 unfold Cb.enc at hck hfl hbf ⊢
 unfold Cb.cells at hck hfl hbf hrc hrn hcl ⊢
 (refine sv Tryd.f54 ?_;simp only [Tryd.f54,gS])
 (repeat first|simp only [ww]|(apply xa;simp +decide only [go_sem,hck,hfl,hbf,h2,h3,h4,slU_cells,slU_sto,slU_junk];rfl;kernel_rfl))
 refine xp_rf kp54_0 (by simp +decide only [go_sem]<;>rfl) rfl (by kernel_rfl) (hcl _ _) ?_
 show bk 0 _ .normal _ [_,_,_,_,_,none]
 (repeat first|simp only [ww]|(apply xa;simp +decide only [go_sem];rfl;kernel_rfl))
 (apply fqb;simp +decide only [go_sem]<;>rfl)
theorem count_call {d:Bool} (H:Heap) (p q:Cb) (h:Shp p q) (FV:AV) (f:Nat → Nat → Bool) (hF:IsF FV f):callV L.env d (sem L.env Mf) (.func (.func 54) [] []) [p.enc,q.enc,FV] H = some (.int .i64 (cntZ f p.all q.all (p.ins.length + p.sts.length)),H,[]):=
 callV_flat (by kernel_rfl) (by kernel_rfl) rfl (by simp [refsL,enc_refs,hF.1]) (count_ok p q h FV f hF) rfl
end Go.KInst
