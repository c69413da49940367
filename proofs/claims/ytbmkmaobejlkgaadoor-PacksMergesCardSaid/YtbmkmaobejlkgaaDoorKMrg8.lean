/- Part of a proof. No condition. -/
import Derived.Test.YtbmkmaobejlkgaaDoorKMrg7
set_option linter.unusedSimpArgs false
set_option linter.unusedVariables false
namespace Go.KInst
open Go.Proofs Go.Ax Go.Pc
set_option maxRecDepth 100000
theorem mergeR (b:List Nat) (X:List (List AV)) (i k x y:Nat) (hX:FlatR X) (hx:X[k]? = some [.int .u8 x]) (hy:b[i]? = some y):sem L.env Mf yId [.yfn 0,.int .i64 i,.ptr 2 k 0] [some (.yloop 2100000 [(8,.ptr 1 0 0),(5100000,.junk)] .ready),some (.row 1 [[slU b]]),some (.row 1 X)] = some (.bool true,[some (.yloop 2100000 [(8,.ptr 1 0 0),(5100000,.junk)] .ready),some (.row 1 [[slU b]]),some (.row 1 (X.set k [.int .u8 (min x y:Nat)]))]):=by
 have hri:L.env.G.rnd 2100000 = lookRF 0 (rfs 42 21 0 (Tryd.f21.body.getD .skip)):=by kernel_rfl
 simp only [Tryd.f21,gS,rfs,lookRF,List.append_nil,List.nil_append,List.cons_append,beqN,decide_true,cond_true,cond_false,reduceCtorEq,Nat.reduceEqDiff,decide_false] at hri
 have hg:(b.map u8R)[i]? = some [.int .u8 y]:=by rw [List.getElem?_map,hy];rfl
 have hlt:=(List.getElem?_eq_some_iff.1 hy).1
 have hkl:=(List.getElem?_eq_some_iff.1 hx).1
 have hne:b ≠ []:=by intro e;rw [e] at hlt;simp at hlt
 have hmin:(if (y:Int) < (x:Int) then (y:Int) else (x:Int)) = ((min x y:Nat):Int):=by
  by_cases h:y < x
  ·rw [if_pos (by omega),Nat.min_eq_right (by omega)]
  ·rw [if_neg (by omega),Nat.min_eq_left (by omega)]
 rw [slU_ne hne]
 refine sem_round yno yfn0 rfl hri rfl rfl ?_
 simp only [setsF_cons,setsF_nil]
 (repeat first|simp only [ww]|(apply xa;simp +decide only [go_sem];rfl;kernel_rfl))
 refine ryA_i rfl ?_
 (repeat first|simp only [ww]|((with_reducible first|apply xs2|apply xI);(·simp +decide only [go_sem,hg,hlt,hx,hkl,hmin,List.length_map];rfl);with_reducible first|apply xT|apply xF|(·kernel_rfl)))
 exact ryE_i rfl rfl
def mrH (b:List Nat) (n m:Nat) (X Y:List (List AV)):Heap:=[some (.yloop 2100000 [(8,.ptr 1 0 0),(5100000,.junk)] .ready),some (.row 1 [[slU b]]),some (.row 2 [[.slice 3 0 n (some n),.slice 4 0 m (some m)]]),some (.row 1 X),some (.row 1 Y)]
theorem mergeA (d:Bool) (b:List Nat) (n m:Nat) (X Y:List (List AV)) (i k x y:Nat) (hX:FlatR X) (hx:X[k]? = some [.int .u8 x]) (hy:b[i]? = some y):callV L.env d (sem L.env Mf) (.yfn 0) [.int .i64 i,.ptr 3 k 0] (mrH b n m X Y) = some (.bool true,mrH b n m (X.set k [.int .u8 (min x y:Nat)]) Y,[0,1,3]):=by
 have h3:=slU_refs b
 have h4:=fun π=>slU_ren π b
 have h5:=refs_flatR hX
 have h6:=fun π=>renR_flat π hX
 have hX2:FlatR (X.set k [.int .u8 (min x y:Nat)]):=fun r hr=>by
  rcases List.mem_or_eq_of_mem_set hr with h|rfl
  ·exact hX r h
  ·rfl
 have h7:=fun π=>renR_flat π hX2
 unfold mrH
 refine yfn_eq ((callLoc_eq (sem L.env Mf yId) [.yfn 0,.int .i64 i,.ptr 3 k 0] _ (σ:=[0,1,3]) (by simp +decide only [go_sem,h3,h5]) rfl rfl (args':=[.yfn 0,.int .i64 i,.ptr 2 k 0]) rfl (H0:=_) (by simp only [smallH,List.map_cons,List.map_nil,HeapF,List.getElem?_cons_succ,List.getElem?_cons_zero,Option.join_some,Option.map_some,renObj,h4,h6];rfl) (mergeR b X i k x y hX hx hy)).trans ?_) rfl
 simp +decide only [go_sem,h4,h7]<;>rfl
theorem mergeB (d:Bool) (b:List Nat) (n m:Nat) (X Y:List (List AV)) (i k x y:Nat) (hX:FlatR Y) (hx:Y[k]? = some [.int .u8 x]) (hy:b[i]? = some y):callV L.env d (sem L.env Mf) (.yfn 0) [.int .i64 i,.ptr 4 k 0] (mrH b n m X Y) = some (.bool true,mrH b n m X (Y.set k [.int .u8 (min x y:Nat)]),[0,1,4]):=by
 have h3:=slU_refs b
 have h4:=fun π=>slU_ren π b
 have h5:=refs_flatR hX
 have h6:=fun π=>renR_flat π hX
 have hX2:FlatR (Y.set k [.int .u8 (min x y:Nat)]):=fun r hr=>by
  rcases List.mem_or_eq_of_mem_set hr with h|rfl
  ·exact hX r h
  ·rfl
 have h7:=fun π=>renR_flat π hX2
 unfold mrH
 refine yfn_eq ((callLoc_eq (sem L.env Mf yId) [.yfn 0,.int .i64 i,.ptr 4 k 0] _ (σ:=[0,1,4]) (by simp +decide only [go_sem,h3,h5]) rfl rfl (args':=[.yfn 0,.int .i64 i,.ptr 2 k 0]) rfl (H0:=_) (by simp only [smallH,List.map_cons,List.map_nil,HeapF,List.getElem?_cons_succ,List.getElem?_cons_zero,Option.join_some,Option.map_some,renObj,h4,h6];rfl) (mergeR b Y i k x y hX hx hy)).trans ?_) rfl
 simp +decide only [go_sem,h4,h7]<;>rfl
/-- The lesser of two bits, of the first so many. -/
def mzT (a b:List Nat) (i:Nat):List Nat:=(List.zipWith min a b).take i ++ a.drop i
theorem mzT_zero (a b:List Nat):mzT a b 0 = a:=by simp [mzT]
theorem mzT_len {a b:List Nat} (h:a.length ≤ b.length) (i:Nat):(mzT a b i).length = a.length:=by
 unfold mzT;simp;omega
theorem mzT_end {a b:List Nat} (h:a.length ≤ b.length):mzT a b a.length = List.zipWith min a b:=by
 unfold mzT
 rw [List.drop_length,List.append_nil,List.take_of_length_le (by simp;omega)]
theorem mzT_get {a b:List Nat} {i x:Nat} (h:a.length ≤ b.length) (hx:a[i]? = some x):(mzT a b i)[i]? = some x:=by
 have hi:=(List.getElem?_eq_some_iff.1 hx).1
 unfold mzT
 have hl:((List.zipWith min a b).take i).length = i:=by simp;omega
 rw [List.getElem?_append_right (by omega),hl,Nat.sub_self,List.getElem?_drop,Nat.add_zero];exact hx
theorem mzT_set {a b:List Nat} {i x y:Nat} (h:a.length ≤ b.length) (hx:a[i]? = some x) (hy:b[i]? = some y):(mzT a b i).set i (min x y) = mzT a b (i + 1):=by
 have hi:=(List.getElem?_eq_some_iff.1 hx).1
 unfold mzT
 have hl:((List.zipWith min a b).take i).length = i:=by simp;omega
 have hz:(List.zipWith min a b)[i]? = some (min x y):=by rw [List.getElem?_zipWith,hx,hy]
 have hd:a.drop i = x :: a.drop (i + 1):=by rw [← List.getElem_cons_drop hi,(List.getElem?_eq_some_iff.1 hx).2]
 rw [List.set_append_right _ _ (by omega),hl,Nat.sub_self,hd,List.set_cons_zero,List.take_add_one,hz,Option.toList_some,List.append_assoc]
 try rfl
theorem u8_set (l:List Nat) (i z:Nat):(l.map u8R).set i [AV.int .u8 z] = (l.set i z).map u8R:=by rw [List.map_set];rfl
theorem bits2_ok (ins sts bi bs:List Nat) (h1:ins.length = bi.length) (h2:sts.length = bs.length) (hl:ins.length + sts.length < 100000) :
 sem L.env Mf 72 [.yfn 0,.ptr 2 0 0] (mrH (bi ++ bs) ins.length sts.length (ins.map u8R) (sts.map u8R)) = some (.tuple [],mrH (bi ++ bs) ins.length sts.length ((List.zipWith min ins bi).map u8R) ((List.zipWith min sts bs).map u8R)):=by
 suffices hs:∃ r:AV × Heap,(r = (.tuple [],mrH (bi ++ bs) ins.length sts.length ((List.zipWith min ins bi).map u8R) ((List.zipWith min sts bs).map u8R))) ∧ sem L.env Mf 72 [.yfn 0,.ptr 2 0 0] (mrH (bi ++ bs) ins.length sts.length (ins.map u8R) (sts.map u8R)) = some r by
  obtain ⟨r,rfl,h3⟩:=hs
  exact h3
 have g1:=slU_refs (bi ++ bs)
 have hgc:∀ (X Y:List Nat) (keep:List Nat) (F F':Frm),keepF keep F = F' → refsL (F'.map (·.2)) = [0,2] → gcD 5 keep F (mrH (bi ++ bs) ins.length sts.length (X.map u8R) (Y.map u8R)) = some (F',mrH (bi ++ bs) ins.length sts.length (X.map u8R) (Y.map u8R)):=fun X Y keep F F' hk hF=>
  gc_lowR rfl hk (by rw [hF];intro b hb;unfold mrH;simp at hb;simp;omega) (by rw [hF];simp) (fun b c hc=>by
   unfold mrH at hc ⊢
   match b with
   | 0=>simp [HeapF,refsO,refsF,refs] at hc;simp;omega
   | 1=>simp [HeapF,refsO,refsL,refs,g1] at hc
   | 2=>simp [HeapF,refsO,refsL,refs] at hc;simp;omega
   | 3=>simp only [HeapF,List.getElem?_cons_succ,List.getElem?_cons_zero,Option.join_some,refsO,refsU] at hc;simp at hc
   | 4=>simp only [HeapF,List.getElem?_cons_succ,List.getElem?_cons_zero,Option.join_some,refsO,refsU] at hc;simp at hc
   | b + 5=>simp [HeapF,refsO] at hc) (by
   unfold mrH
   have e1:=refsU X
   have e2:=refsU Y
   simp only [List.flatMap_cons,List.flatMap_nil,refsO,e1,e2,g1,refsF,refs,refsL,List.append_nil,List.nil_append]
   simp)
 have hbl:(bi ++ bs).length = ins.length + sts.length:=by rw [List.length_append];omega
 (refine svE Tryd.f72 ?_;simp only [Tryd.f72,gS])
 rw [show (mrH (bi ++ bs) ins.length sts.length (ins.map u8R) (sts.map u8R)).length = 5 from rfl]
 unfold mrH
 (repeat first|simp only [ww]|(apply xa;simp +decide only [go_sem];rfl;kernel_rfl))
 refine xp_lp kp72_0 (fun q F H1=>∃ i:Nat,q = ins.length - i ∧ i ≤ ins.length ∧ F = [(0,.yfn 0),(1,.ptr 2 0 0),(7,.int .i64 ins.length),(8,.int .i64 i)] ∧ H1 = mrH (bi ++ bs) ins.length sts.length ((mzT ins bi i).map u8R) (sts.map u8R)) ins.length ?_ ?_
 ·exact ⟨_,_,by rw [← mzT_zero ins bi] ; exact hgc (mzT ins bi 0) sts _ _ _ (by simp +decide only [go_sem]<;>rfl) (by simp +decide only [go_sem]),0,rfl,Nat.zero_le _,by rw [mzT_zero];rfl,rfl⟩
 ·rintro q F H1 ⟨i,rfl,hi,rfl,rfl⟩
  have hml:=mzT_len (a:=ins) (b:=bi) (by omega) i
  by_cases hlt:i < ins.length
  ·obtain ⟨x,hx⟩:∃ x,ins[i]? = some x:=⟨_,List.getElem?_eq_getElem hlt⟩
   obtain ⟨y,hy⟩:∃ y,bi[i]? = some y:=⟨_,List.getElem?_eq_getElem (by omega)⟩
   have hy2:(bi ++ bs)[i]? = some y:=by rw [List.getElem?_append_left (by omega)];exact hy
   have hg:=mzT_get (b:=bi) (by omega) hx
   have hgr:((mzT ins bi i).map u8R)[i]? = some [.int .u8 x]:=by rw [List.getElem?_map,hg];rfl
   have hst:=mergeA false (bi ++ bs) ins.length sts.length ((mzT ins bi i).map u8R) (sts.map u8R) i i x y (flatU _) hgr hy2
   rw [u8_set,mzT_set (by omega) hx hy] at hst
   have c1:(i:Int) < ins.length:=by omega
   have hw:=wI1 (n:=i) (by omega)
   have hle:ins.length ≤ (mzT ins bi i).length:=by omega
   unfold mrH at hst ⊢
   (repeat first|simp only [ww]|(apply xa;simp +decide only [go_sem,c1,hlt,hst,hw,hle,List.length_map];rfl;kernel_rfl))
   refine lpJ_n (ins.length - (i + 1)) (by omega) ⟨_,_,hgc (mzT ins bi (i + 1)) sts _ _ _ (by simp +decide only [go_sem]<;>rfl) (by simp +decide only [go_sem]),i + 1,rfl,hlt,rfl,rfl⟩
  ·obtain rfl:i = ins.length:=by omega
   have c1:¬ (ins.length:Int) < ins.length:=by omega
   rw [mzT_end (by omega)] at *
   have hml:=mzT_end (a:=ins) (b:=bi) (by omega)
   generalize hZ:List.zipWith min ins bi = Z at *
   unfold mrH
   (repeat first|simp only [ww]|(apply xa;simp +decide only [go_sem,c1];rfl;kernel_rfl))
   refine xp_lp kp72_2 (fun q F H1=>∃ j:Nat,q = sts.length - j ∧ j ≤ sts.length ∧ F = [(0,.yfn 0),(1,.ptr 2 0 0),(22,.int .i64 sts.length),(23,.int .i64 j)] ∧ H1 = mrH (bi ++ bs) ins.length sts.length (Z.map u8R) ((mzT sts bs j).map u8R)) sts.length ?_ ?_
   ·exact ⟨_,_,by rw [← mzT_zero sts bs] ; exact hgc Z (mzT sts bs 0) _ _ _ (by simp +decide only [go_sem]<;>rfl) (by simp +decide only [go_sem]),0,rfl,Nat.zero_le _,by rw [mzT_zero];rfl,rfl⟩
   ·rintro q F H1 ⟨j,rfl,hj,rfl,rfl⟩
    have hml2:=mzT_len (a:=sts) (b:=bs) (by omega) j
    by_cases hlt2:j < sts.length
    ·obtain ⟨x,hx⟩:∃ x,sts[j]? = some x:=⟨_,List.getElem?_eq_getElem hlt2⟩
     obtain ⟨y,hy⟩:∃ y,bs[j]? = some y:=⟨_,List.getElem?_eq_getElem (by omega)⟩
     have hy2:(bi ++ bs)[ins.length + j]? = some y:=by rw [h1,List.getElem?_append_right (by omega),Nat.add_sub_cancel_left];exact hy
     have hg:=mzT_get (b:=bs) (by omega) hx
     have hgr:((mzT sts bs j).map u8R)[j]? = some [.int .u8 x]:=by rw [List.getElem?_map,hg];rfl
     have hst:=mergeB true (bi ++ bs) ins.length sts.length (Z.map u8R) ((mzT sts bs j).map u8R) (ins.length + j) j x y (flatU _) hgr hy2
     rw [u8_set,mzT_set (by omega) hx hy] at hst
     have c2:(j:Int) < sts.length:=by omega
     have hw:=wI1 (n:=j) (by omega)
     have hw2:IntKind.i64.wrap ((ins.length:Int) + (j:Int)) = ((ins.length + j:Nat):Int):=by rw [w64 (by omega) (by omega)];omega
     have hle2:sts.length ≤ (mzT sts bs j).length:=by omega
     unfold mrH at hst ⊢
     (repeat first|simp only [ww]|(apply xa;simp +decide only [go_sem,c2];rfl;kernel_rfl))
     (repeat first|simp only [ww]|((with_reducible first|apply xs2|apply xI);(·simp +decide only [go_sem,hlt2,hst,hw,hw2,hle2,List.length_map];rfl);with_reducible first|apply xT|apply xF|(·kernel_rfl)))
     refine lpJ_n (sts.length - (j + 1)) (by omega) ⟨_,_,hgc Z (mzT sts bs (j + 1)) _ _ _ (by simp +decide only [go_sem]<;>rfl) (by simp +decide only [go_sem]),j + 1,rfl,hlt2,rfl,rfl⟩
    ·obtain rfl:j = sts.length:=by omega
     have c2:¬ (sts.length:Int) < sts.length:=by omega
     rw [mzT_end (by omega)]
     unfold mrH
     (repeat first|simp only [ww]|(apply xa;simp +decide only [go_sem,c2];rfl;kernel_rfl))
     refine fqE_n (vs:=[]) (r:=(_,_)) (by simp +decide only [go_sem]) ?_ rfl
     have e1:=fun π=>renU π Z
     have e2:=fun π=>renU π (List.zipWith min sts bs)
     have e3:=fun π=>slU_ren π (bi ++ bs)
     simp +decide only [go_sem,finish,e1,e2,e3,oneOf]<;>rfl
end Go.KInst
