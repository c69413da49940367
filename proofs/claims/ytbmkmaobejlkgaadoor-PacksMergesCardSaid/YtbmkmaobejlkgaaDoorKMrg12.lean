/- Part of a proof. No condition. -/
import Derived.Test.YtbmkmaobejlkgaaDoorKMrg11
set_option linter.unusedSimpArgs false
set_option linter.unusedVariables false
namespace Go.KInst
open Go.Proofs Go.Ax Go.Pc
set_option maxRecDepth 100000
theorem foG_len' (gs:List (List Nat)):(foG gs).length = gs.length:=by simp [foG]
theorem gw_cp {H:Heap} {w b:Nat} {ids:Nat → Nat} {cp cp':Nat → Option Nat} {ws:List (List AV)} {fo:List (List (List AV))} (h:Gw H w b ids cp ws fo) (he:∀ j,j < fo.length → cp j = cp' j):Gw H w b ids cp' ws fo:=by
 refine ⟨h.out,h.flat,⟨?_,h.two.sub,h.two.inj,h.two.flat⟩,h.wb,h.wi⟩
 rw [h.two.top]
 congr 2
 unfold rows2
 apply List.ext_getElem?
 intro j
 rw [List.getElem?_mapIdx,List.getElem?_mapIdx]
 cases hf:fo[j]? with
 | none=>rfl
 | some f=>simp only [Option.map_some,he j (List.getElem?_eq_some_iff.1 hf).1]
theorem hS2 {H L:Heap} {a a':Nat} {o o':Option AObj} (i:Nat):HeapF ((H.set a o).set a' o' ++ L) (H.length + i) = HeapF L i:=by
 have:=heapF_hiS (H:=H.set a o) (L:=L) (a:=a') (o:=o') i
 rwa [List.length_set] at this
theorem hS3 {H L:Heap} {a a' a2:Nat} {o o' o2:Option AObj} (i:Nat):HeapF (((H.set a o).set a' o').set a2 o2 ++ L) (H.length + i) = HeapF L i:=by
 have:=hS2 (H:=H.set a o) (L:=L) (a:=a') (o:=o') (a':=a2) (o':=o2) i
 rwa [List.length_set] at this
theorem lS2 {H L:Heap} {a a' c:Nat} {o o':Option AObj} (hc:c < H.length) (h1:c ≠ a) (h2:c ≠ a'):HeapF ((H.set a o).set a' o' ++ L) c = HeapF H c:=by
 rw [heapF_lo (eq_true (by simpa using hc)),heapF_set_ne (Ne.symm h2),heapF_set_ne (Ne.symm h1)]
theorem cpG_app {gs:List (List Nat)} {i:Nat} (j:Nat) (hj:j < (foG gs).length + 1):(if j = (foG gs).length then some 1 else cpG gs j) = cpG (gs ++ [[i]]) j:=by
 rw [foG_len'] at hj ⊢
 unfold cpG
 by_cases h:j = gs.length
 ·subst h;rw [if_pos rfl,List.getElem?_append_right (Nat.le_refl _),Nat.sub_self];rfl
 ·rw [if_neg h,List.getElem?_append_left (by omega)]
theorem foG_len (gs:List (List Nat)):(foG gs).length = gs.length:=by simp [foG]
theorem foG_get {gs:List (List Nat)} {j:Nat} {g:List Nat} (h:gs[j]? = some g):(foG gs)[j]? = some (g.map intR):=by unfold foG;rw [List.getElem?_map,h];rfl
theorem cntZ_symm (a b:List Nat) (i:Nat):cntZ disF a b i = cntZ disF b a i:=by
 unfold cntZ
 induction a generalizing b i with
 | nil=>cases b<;>simp
 | cons x a ih=>
  cases b with
  | nil=>simp
  | cons y b=>
   cases i with
   | zero=>simp
   | succ i=>
    simp only [List.zip_cons_cons,List.take_succ_cons,List.countP_cons,ih b i]
    congr 1
    unfold disF
    rw [Nat.add_comm]
theorem cmpB_symm {p q:Cb} (h:Shp p q):cmpB p q = cmpB q p:=by
 unfold cmpB Cb.n
 rw [cntZ_symm,h.ins,h.sts]
theorem gcD_keep {m:Nat} {keep:List Nat} {F F':Frm} {H:Heap} (h:keepF keep F = keepF keep F'):gcD m keep F H = gcD m keep F' H:=by
 unfold gcD;rw [h]
def resO:List Cb → AV|[]=>.nilslice|a :: r=>.islice ((a :: r).map Cb.cells) (some (r.length + 1))
def resG:List (List Nat) → AV|[]=>.nilslice|a :: r=>.islice ((a :: r).map fun g=>[lsV g]) (some (r.length + 1))
def cpC (gs:List (List Nat)) (j i:Nat):Option Nat:=if i < j then (gs[i]?).map List.length else cpG gs i
theorem clipP_nil:sem L.env Mf 46 [.nilslice] [] = some (.nilslice,[]):=by
 (refine sv Tryd.f46 ?_;simp only [Tryd.f46,gS])
 (repeat first|simp only [ww]|(apply xa;simp +decide only [go_sem];rfl;kernel_rfl))
 (apply fqb;simp +decide only [go_sem]<;>rfl)
theorem clipG_nil:sem L.env Mf 47 [.nilslice] [] = some (.nilslice,[]):=by
 (refine sv Tryd.f47 ?_;simp only [Tryd.f47,gS])
 (repeat first|simp only [ww]|(apply xa;simp +decide only [go_sem];rfl;kernel_rfl))
 (apply fqb;simp +decide only [go_sem]<;>rfl)
theorem clipP_ok (n:Nat) (rows:List (List AV)) (hf:FlatR rows):sem L.env Mf 46 [.slice 0 0 n none] [some (.row 2 rows)] = some (.slice 0 0 n (some n),[some (.row 2 rows)]):=by
 have h1:=fun π=>renR_flat π hf
 (refine sv Tryd.f46 ?_;simp only [Tryd.f46,gS])
 (repeat first|simp only [ww]|(apply xa;simp +decide only [go_sem];rfl;kernel_rfl))
 (apply fqb;simp +decide only [go_sem,h1]<;>rfl)
theorem clipP_call {d:Bool} {H:Heap} {b n:Nat} {rows:List (List AV)} (hf:FlatR rows) (hb:HeapF H b = some (.row 2 rows)):callV L.env d (sem L.env Mf) (.func (.func 46) [] []) [.slice b 0 n none] H = some (.slice b 0 n (some n),H,[b]):=by
 have h:=callV_one' (E:=L.env) (draw:=d) (call:=sem L.env Mf) (g:=46) (fs:=[]) (cs:=[]) (ar:=[.slice b 0 n none]) (H:=H) (b:=b) (by kernel_rfl) (by kernel_rfl) rfl hb (refsO_flat hf) (FlatO.row hf) rfl (args':=[AV.slice 0 0 n none]) (by simp only [List.nil_append,List.append_nil,List.map_cons,List.map_nil,ren_slice1]) (clipP_ok n rows hf) (FlatO.row hf) (back_slice1 b 0 _ n _)
 rw [set_same hb] at h
 exact h
theorem clip_some (n:Nat) (rows:List (List AV)) (hf:FlatR rows):sem L.env Mf 31 [.slice 0 0 n (some n)] [some (.row 1 rows)] = some (.slice 0 0 n (some n),[some (.row 1 rows)]):=by
 have h1:=fun π=>renR_flat π hf
 (refine sv Tryd.f31 ?_;simp only [Tryd.f31,gS])
 (repeat first|simp only [ww]|(apply xa;simp +decide only [go_sem];rfl;kernel_rfl))
 (apply fqb;simp +decide only [go_sem,h1]<;>rfl)
theorem clipA_call {d:Bool} {H:Heap} {b n:Nat} {c:Option Nat} {rows:List (List AV)} (hc:c = none ∨ c = some n) (hf:FlatR rows) (hb:HeapF H b = some (.row 1 rows)):callV L.env d (sem L.env Mf) (.func (.func 31) [] []) [.slice b 0 n c] H = some (.slice b 0 n (some n),H,[b]):=by
 rcases hc with rfl|rfl
 ·exact clip_call hf hb
 ·have h:=callV_one' (E:=L.env) (draw:=d) (call:=sem L.env Mf) (g:=31) (fs:=[]) (cs:=[]) (ar:=[.slice b 0 n (some n)]) (H:=H) (b:=b) (by kernel_rfl) (by kernel_rfl) rfl hb (refsO_flat hf) (FlatO.row hf) rfl (args':=[AV.slice 0 0 n (some n)]) (by simp only [List.nil_append,List.append_nil,List.map_cons,List.map_nil,ren_slice1]) (clip_some n rows hf) (FlatO.row hf) (back_slice1 b 0 _ n _)
  rw [set_same hb] at h
  exact h
theorem fin_low {v:AV} {H:Heap} (hv:∀ d,frzV H.length true d v = some v) (hlow:∀ x,∀ y ∈ refsO (HeapF H x),y < H.length):finish false H.length v H = some (v,H):=by
 simp only [finish,cond_false,hv]
 congr 2
 rw [List.take_length]
 apply List.ext_getElem (by simp)
 intro b h1 h2
 simp only [List.getElem_map]
 cases ho:H[b] with
 | none=>rfl
 | some o=>
  have hob:HeapF H b = some o:=by unfold HeapF;rw [List.getElem?_eq_getElem h2,ho];rfl
  simp only [Option.map_some]
  rw [renO_below (m:=H.length) (fun c hc=>by unfold piBelow;rw [bltD,decide_eq_true hc];rfl) o (fun c hc=>hlow b c (by rw [hob];exact hc))]
theorem clipG_ok (n:Nat) (H0:Heap) (b':Nat) (R:List (List AV)) (hR:HeapF H0 b' = some (.row 1 R)) (hlow:∀ x,∀ y ∈ refsO (HeapF H0 x),y < H0.length):sem L.env Mf 47 [.slice b' 0 n none] H0 = some (.slice b' 0 n (some n),H0):=by
 have hb:=heapF_lt hR
 have hf:=fin_low (v:=.slice b' 0 n (some n)) (H:=H0) (fun d=>by simp only [frz_slice,decide_eq_true hb,cond_true]) hlow
 suffices hs:∃ r:AV × Heap,(r = (.slice b' 0 n (some n),H0)) ∧ sem L.env Mf 47 [.slice b' 0 n none] H0 = some r by
  obtain ⟨r,rfl,h3⟩:=hs
  exact h3
 (refine svE Tryd.f47 ?_;simp only [Tryd.f47,gS])
 (repeat first|simp only [ww]|(apply xa;simp +decide only [go_sem,hR];rfl;kernel_rfl))
 exact fqE_n (vs:=[.slice b' 0 n (some n)]) (r:=(_,_)) (by simp +decide only [go_sem]) hf rfl
theorem pmerge_ok (c:Option (Option Nat)) (ps:List Cb) (n m:Nat) (h:∀ p ∈ ps,p.sh n m) (hl:ps.length ≤ 100):∃ r:AV × Heap,r = (.tuple [resO (mrun ps ps.length).1,resG (mrun ps ps.length).2,.int .i64 0],[]) ∧ sem L.env Mf 19 [sl c (ps.map Cb.cells)] [] = some r:=by
 have c0:¬ (4096:Int) < ps.length:=by omega
 (refine svE Tryd.f19 ?_;simp only [Tryd.f19,gS])
 (repeat first|simp only [ww]|(apply xa;simp +decide only [go_sem,List.length_map,c0];rfl;kernel_rfl))
 refine xp_lp kp19_0 (fun q F H1=>∃ i:Nat,q = ps.length - i ∧ i ≤ ps.length ∧ F = [(0,sl c (ps.map Cb.cells)),(19,sl c (ps.map Cb.cells)),(20,.int .i64 ps.length),(21,.int .i64 i)] ∧ H1 = []) ps.length ?_ ?_
 ·refine ⟨_,_,?_,0,rfl,Nat.zero_le _,rfl,rfl⟩
  (simp +decide only [go_sem,gcD_eq,gcIds_eq]<;>rfl)<;>rfl
 ·rintro q F H1 ⟨i,rfl,hi,rfl,rfl⟩
  by_cases hlt:i < ps.length
  ·obtain ⟨p,hp⟩:∃ p,ps[i]? = some p:=⟨_,List.getElem?_eq_getElem hlt⟩
   obtain ⟨p0,hp0⟩:∃ p,ps[0]? = some p:=⟨_,List.getElem?_eq_getElem (by omega)⟩
   have hs:=h p (List.mem_of_getElem? hp)
   have hs0:=h p0 (List.mem_of_getElem? hp0)
   have hck:∀ H,callV L.env false (sem L.env Mf) (.func (.func 42) [] []) [.agg [sl p.ci (p.ins.map u8R),sl p.cs (p.sts.map u8R)]] H = some (.int .i64 0,H,[]):=fun H=>check_call H p hs.ok
   have hg:(ps.map Cb.cells)[i]? = some [sl p.ci (p.ins.map u8R),sl p.cs (p.sts.map u8R)]:=by rw [List.getElem?_map,hp];rfl
   have hg0:(ps.map Cb.cells)[0]? = some [sl p0.ci (p0.ins.map u8R),sl p0.cs (p0.sts.map u8R)]:=by rw [List.getElem?_map,hp0];rfl
   have hr0:Ax.rowAt (ps.map Cb.cells) 0 = some [sl p0.ci (p0.ins.map u8R),sl p0.cs (p0.sts.map u8R)]:=by unfold Ax.rowAt;simpa using hg0
   have e1:((p.ins.length:Int) = p0.ins.length) = True:=eq_true (by rw [hs.ins,hs0.ins])
   have e2:((p.sts.length:Int) = p0.sts.length) = True:=eq_true (by rw [hs.sts,hs0.sts])
   have c1:(i:Int) < ps.length:=by omega
   have hw:=wI1 (n:=i) (by omega)
   have hpos:0 < ps.length:=by omega
   (repeat first|simp only [ww]|(apply xa;simp +decide only [go_sem,c1,hlt,hg,hck,List.length_map];rfl;kernel_rfl))
   (repeat first|simp only [ww]|((with_reducible first|apply xs2|apply xI);(·simp +decide only [go_sem,hr0,hpos,e1,e2,hw,List.length_map];rfl);with_reducible first|apply xT|apply xF|(·kernel_rfl)))
   refine lpJ_n (ps.length - (i + 1)) (by omega) ⟨_,_,?_,i + 1,rfl,hlt,rfl,rfl⟩
   (simp +decide only [go_sem,gcD_eq,gcIds_eq]<;>rfl)<;>rfl
  ·obtain rfl:i = ps.length:=by omega
   have c1:¬ (ps.length:Int) < ps.length:=by omega
   have hinv:=fun i=>mrun_inv h i
   (repeat first|simp only [ww]|(apply xa;simp +decide only [go_sem,c1,List.length_map];rfl;kernel_rfl))
   refine xp_lp kp19_2 (fun q F H1=>∃ (i:Nat) (V1 V2:AV),q = ps.length - i ∧ i ≤ ps.length ∧ F = [(8,V1),(9,V2),(51,sl c (ps.map Cb.cells)),(52,.int .i64 ps.length),(53,.int .i64 i)] ∧ GS (mrun ps i).1 (mrun ps i).2 H1 V1 V2) ps.length ?_ ?_
   ·refine ⟨_,_,?_,0,.nilslice,.nilslice,rfl,Nat.zero_le _,rfl,.nil rfl rfl⟩
    (simp +decide only [go_sem,gcD_eq,gcIds_eq]<;>rfl)<;>rfl
   ·rintro q F H1 ⟨i,V1,V2,rfl,hi,rfl,hGS⟩
    by_cases hlt:i < ps.length
    ·obtain ⟨p,hp⟩:∃ p,ps[i]? = some p:=⟨_,List.getElem?_eq_getElem hlt⟩
     have hs:=h p (List.mem_of_getElem? hp)
     have hI:=hinv i
     have hms:=mrun_succ hp
     have hg:(ps.map Cb.cells)[i]? = some [sl p.ci (p.ins.map u8R),sl p.cs (p.sts.map u8R)]:=by rw [List.getElem?_map,hp];rfl
     have hrx:∀ H,callV L.env false (sem L.env Mf) (.func (.func 45) [] []) [.agg [sl p.ci (p.ins.map u8R),sl p.cs (p.sts.map u8R)],.nilslice] H = some (.tuple [.agg [sl (relC p).ci ((relC p).ins.map u8R),sl (relC p).cs ((relC p).sts.map u8R)],.int .i64 0],H,[]):=fun H=>relax_call H p hs.ok
     have c1:(i:Int) < ps.length:=by omega
     have hw:=wI1 (n:=i) (by omega)
     have hPC:p.cells = [sl p.ci (p.ins.map u8R),sl p.cs (p.sts.map u8R)]:=rfl
     generalize hst:mrun ps i = st at *
     obtain ⟨outs,gs⟩:=st
     dsimp only at hGS hI
     have hIl:=hI.len
     have hIle:=hI.le
     dsimp only at hIl hIle
     cases hGS with
     | nil h1 h2=>
      subst h1 h2
      have hn0:mstep ([],[]) i p = ([relC p],[[i]]):=rfl
      have hix:callV L.env false (sem L.env Mf) (.func (.func 43) [] []) [.nilslice,.func (.func 44) [] [.ptr 0 0 0]] [some (.row 2 [[sl p.ci (p.ins.map u8R),sl p.cs (p.sts.map u8R)]])] = some (.int .i64 (-1),[some (.row 2 [[sl p.ci (p.ins.map u8R),sl p.cs (p.sts.map u8R)]])],[0]):=
       callV_one (b:=0) (by kernel_rfl) (by kernel_rfl) rfl rfl (refsO_flat (cells_flat p)) (FlatO.row (cells_flat p)) rfl (args':=[.nilslice,.func (.func 44) [] [.ptr 0 0 0]]) rfl (idxP_nil p) rfl
      (repeat first|simp only [ww]|(apply xa;simp +decide only [go_sem,c1,hlt,hg,hix,hrx,hw,List.length_map];rfl;kernel_rfl))
      have hG:=Gw.first (H1:=[some (.row 2 [[sl p.ci (p.ins.map u8R),sl p.cs (p.sts.map u8R)]]),some (.row 2 [(relC p).cells]),some (.row 2 [(relC p).cells]),some (.row 2 [(relC p).cells]),some (.row 1 [[.int .i64 i]]),some (.row 1 [[.slice 4 0 1 (some 1)]]),some (.row 1 [[.slice 4 0 1 (some 1)]])])
       (w':=3) (b':=6) (x':=4) (x:=(relC p).cells) (z:=intR i) (q:=some 1) (by simpa [refsL,refs,Cb.enc] using enc_refs (relC p)) rfl rfl rfl rfl (by omega) (by omega) (by omega)
      refine lpJ_n (ps.length - (i + 1)) (by omega) ?_
      refine hG.head ?_ ?_ ?_ ?_ (by simp) ?_
      ·intro x hx;simp +decide only [go_sem] at hx;simpa using hx
      ·simp +decide only [go_sem]<;>simp
      ·simp +decide only [go_sem]<;>simp
      ·simp +decide only [go_sem]<;>simp
      ·intro π w' b' ids' H1 hw' hb' hG'
       refine ⟨i + 1,.slice w' 0 1 none,.slice b' 0 1 none,rfl,hlt,?_,?_⟩
       ·simp +decide only [go_sem,hw',hb']<;>rfl
       ·rw [hms,hn0]
        exact .some H1 w' b' ids' (by simp) (gw_cp hG' (fun j hj=>by
         have:j = 0:=by simpa [foG] using hj
         subst this;rfl))
     | some _ w b ids h1 hG=>
      have hop:0 < outs.length:=List.length_pos_iff.2 h1
      have hix:=idxP_call p outs (fun q hq=>hs.two (hI.sh q hq)) (by omega) hG.out
      rw [hPC] at hix
      have hwl:=heapF_lt hG.out
      have hbl:=heapF_lt hG.two.top
      have hwo:=hG.out
      have hbo:=hG.two.top
      have hwb:=eq_false hG.wb
      have hbw:=eq_false (Ne.symm hG.wb)
      have hrl:(rows2 ids (cpG gs) (foG gs)).length = gs.length:=by rw [rows2_len,foG_len]
      cases hfi:outs.findIdx? (cmpB p) with
      | none=>
       rw [hfi] at hix
       have hn0:mstep (outs,gs) i p = (outs ++ [relC p],gs ++ [[i]]):=by unfold mstep;simp only [hfi]
       have hm1:fidI none = -1:=rfl
       rw [hm1] at hix
       have r1:outs.length + 1 ≤ 1000000000:=by omega
       have r2:gs.length + 1 ≤ 1000000000:=by omega
       (repeat first|simp only [ww]|(apply xa;simp +decide only [go_sem,c1,hlt,hg,hix,hrx,hw,hwl,hbl,hwo,hbo,hwb,hbw,hrl,r1,r2,heapF_setF,List.length_set,List.length_map,heapF_hiS,heapF_hi0,heapF_hi,heapF_lo,set_hi0,set_hi,set_lo,lt_add1,lt_add_s,List.append_assoc,List.cons_append,List.nil_append];rfl;kernel_rfl))
       refine lpJ_n (ps.length - (i + 1)) (by omega) ?_
       refine (hG.new (w':=H1.length + 3) (b':=H1.length + 6) (x':=H1.length + 4) (x:=(relC p).cells) (z:=intR i) (q:=some 1) (by simpa [refsL,refs,Cb.enc] using enc_refs (relC p)) rfl (by rw [hS2];rfl) (by rw [hS2];rfl) (by rw [hS2];rfl) (fun c hc h2 h3=>lS2 hc h2 h3) (by omega) (by omega) (by omega) (by omega) (by omega) (by omega)).head ?_ ?_ ?_ ?_ (by rw [List.length_append,foG_len];simp;omega) ?_
       ·intro x hx;simp +decide only [go_sem] at hx;simpa using hx
       ·simp +decide only [go_sem]<;>simp
       ·simp +decide only [go_sem]<;>simp
       ·simp +decide only [go_sem]<;>simp
       ·intro π w' b' ids' H2 hw' hb' hG'
        refine ⟨i + 1,.slice w' 0 (outs.length + 1) none,.slice b' 0 (gs.length + 1) none,rfl,hlt,?_,?_⟩
        ·simp +decide only [go_sem,hw',hb']<;>rfl
        ·rw [hms,hn0]
         have e1:outs.map Cb.cells ++ [(relC p).cells] = (outs ++ [relC p]).map Cb.cells:=by rw [List.map_append];rfl
         have e2:foG gs ++ [[intR i]] = foG (gs ++ [[i]]):=by unfold foG;rw [List.map_append];rfl
         rw [e1,e2] at hG'
         have hfin:=GS.some (outs:=outs ++ [relC p]) (gs:=gs ++ [[i]]) H2 w' b' ids' (by simp) (gw_cp hG' (fun j hj=>cpG_app j (by rw [foG_len] at hj ⊢;simpa using hj)))
         simpa using hfin
      | some k=>
       rw [hfi] at hix
       obtain ⟨hkl,hkc,_⟩:=List.findIdx?_eq_some_iff_getElem.1 hfi
       obtain ⟨q,hq⟩:∃ q,outs[k]? = some q:=⟨_,List.getElem?_eq_getElem hkl⟩
       have hqe:outs[k] = q:=(List.getElem?_eq_some_iff.1 hq).2
       rw [hqe] at hkc
       obtain ⟨g,hgk⟩:∃ g,gs[k]? = some g:=⟨_,List.getElem?_eq_getElem (by omega)⟩
       have hqs:=hI.sh q (List.mem_of_getElem? hq)
       have hgne:=(hI.ne g (List.mem_of_getElem? hgk)).1
       have hgle:=(hI.ne g (List.mem_of_getElem? hgk)).2
       have hn0:mstep (outs,gs) i p = (outs.set k (mrgC q p),gs.set k (g ++ [i])):=by
        unfold mstep;simp only [hfi]
        rw [List.getD_eq_getElem?_getD,hq,List.getD_eq_getElem?_getD,hgk];rfl
       have hm1:fidI (some k) = (k:Int):=rfl
       rw [hm1] at hix
       have hk0:¬ (k:Int) < 0:=by omega
       have hqg:(outs.map Cb.cells)[k]? = some [sl q.ci (q.ins.map u8R),sl q.cs (q.sts.map u8R)]:=by rw [List.getElem?_map,hq];rfl
       have hmr:∀ H,callV L.env true (sem L.env Mf) (.func (.func 21) [] []) [.agg [sl q.ci (q.ins.map u8R),sl q.cs (q.sts.map u8R)],.agg [sl p.ci (p.ins.map u8R),sl p.cs (p.sts.map u8R)]] H =
        some (.tuple [.agg [sl (mrgC q p).ci ((mrgC q p).ins.map u8R),sl (mrgC q p).cs ((mrgC q p).sts.map u8R)],.int .i64 0],H,[]):=fun H=>mrg_call H q p (hqs.two hs) (by rw [cmpB_symm (hqs.two hs)];exact hkc)
       (repeat first|simp only [ww]|(apply xa;simp +decide only [go_sem,c1,hlt,hg,hix,hk0,hwl,hbl,hwo,hbo,hwb,hbw,hrl,List.length_set,List.length_map,heapF_hiS,heapF_hi0,heapF_hi,heapF_lo,set_hi0,set_hi,set_lo,lt_add1,lt_add_s,List.append_assoc,List.cons_append,List.nil_append];rfl;kernel_rfl))
       (repeat first|simp only [ww]|((with_reducible first|apply xs3|apply xI);(·simp +decide only [go_sem,hwl,hbl,hwo,hbo,hwb,hbw,hkl,hqg,hmr,List.length_set,List.length_map,heapF_hiS,heapF_hi0,heapF_hi,heapF_lo,set_hi0,set_hi,set_lo,lt_add1,lt_add_s,List.append_assoc,List.cons_append,List.nil_append];rfl);first|with_reducible apply xT|with_reducible apply xF|(·repeat' (first|exact logP_nil|exact rowP_nil|refine logP_cons ?_ ?_|refine rowP_ord (by simp only [List.length_cons,List.length_nil];decide +kernel) ?_|refine rowP_dis (clash_dis (by simp<;>omega) (by simp<;>omega) (by simp<;>omega)) ?_))))
       have hfoG:=foG_get hgk
       have hget0:=rows2_get (ids:=ids) (cp:=cpG gs) hfoG
       have hks:k < gs.length:=by omega
       have hgm:g.map intR ≠ []:=by simpa using hgne
       obtain ⟨s1,s2⟩:=hG.two.sub k _ hfoG hgm
       have s3:=heapF_lt s1
       have s4:=hG.wi k _ hfoG hgm
       have s5:=eq_false s4
       have s6:=eq_false (Ne.symm s4)
       have s7:=eq_false s2
       have s8:=eq_false (Ne.symm s2)
       have hcpn:∀ j,j < (foG (gs.set k (g ++ [i]))).length → (if j = k then none else cpG gs j) = cpG (gs.set k (g ++ [i])) j:=by
        intro j hj
        unfold cpG
        rw [List.getElem?_set]
        by_cases hjk:k = j
        ·subst hjk
         simp only [if_true,hks]
         cases g with
         | nil=>exact absurd rfl hgne
         | cons x t=>cases t<;>rfl
        ·rw [if_neg (Ne.symm hjk),if_neg hjk]
       have hend:∀ (H':Heap),Gw H' w b (fun i'=>if i' = k then H1.length + 2 else ids i') (fun i'=>if i' = k then none else cpG gs i') ((outs.map Cb.cells).set k (mrgC q p).cells) ((foG gs).set k (g.map intR ++ [intR i])) →
        ∃ F1 H2,gcD 0 [8,9,51,52,53] [(8,AV.slice w 0 outs.length none),(9,.slice b 0 gs.length none),(51,sl c (ps.map Cb.cells)),(52,.int .i64 ps.length),(53,.int .i64 (i + 1:Nat))] H' = some (F1,H2) ∧
         (∃ (i':Nat) (V1 V2:AV),ps.length - (i + 1) = ps.length - i' ∧ i' ≤ ps.length ∧ F1 = [(8,V1),(9,V2),(51,sl c (ps.map Cb.cells)),(52,.int .i64 ps.length),(53,.int .i64 i')] ∧ GS (mrun ps i').1 (mrun ps i').2 H2 V1 V2):=by
        intro H' hG'
        refine hG'.head ?_ ?_ ?_ ?_ (by rw [List.length_set,foG_len];omega) ?_
        ·intro x hx;simp +decide only [go_sem] at hx;simpa using hx
        ·simp +decide only [go_sem]<;>simp
        ·simp +decide only [go_sem]<;>simp
        ·simp +decide only [go_sem]<;>simp
        ·intro π w' b' ids' H2 hw' hb' hG''
         refine ⟨i + 1,.slice w' 0 outs.length none,.slice b' 0 gs.length none,rfl,hlt,?_,?_⟩
         ·simp +decide only [go_sem,hw',hb']<;>rfl
         ·rw [hms,hn0]
          have e1:(outs.map Cb.cells).set k (mrgC q p).cells = (outs.set k (mrgC q p)).map Cb.cells:=by rw [List.map_set]
          have e2:(foG gs).set k (g.map intR ++ [intR i]) = foG (gs.set k (g ++ [i])):=by
           unfold foG;rw [List.map_set,List.map_append];rfl
          rw [e1,e2] at hG''
          have hfin:=GS.some (outs:=outs.set k (mrgC q p)) (gs:=gs.set k (g ++ [i])) H2 w' b' ids' (by intro e;exact h1 (by simpa using e)) (gw_cp hG'' hcpn)
          simpa using hfin
       have hmc:(mrgC q p).cells = [sl (mrgC q p).ci ((mrgC q p).ins.map u8R),sl (mrgC q p).cs ((mrgC q p).sts.map u8R)]:=rfl
       have hmx:refsL (mrgC q p).cells = []:=by simpa [refsL,refs,Cb.enc] using enc_refs (mrgC q p)
       cases g with
       | nil=>exact absurd rfl hgne
       | cons x t=>
        cases t with
        | nil=>
         have hcpk:cpG gs k = some 1:=by unfold cpG;rw [hgk]
         have hget:(rows2 ids (cpG gs) (foG gs))[k]? = some [.slice (ids k) 0 1 (some 1)]:=by rw [hget0,hcpk];rfl
         have s1:HeapF H1 (ids k) = some (.row 1 [[.int .i64 x]]):=s1
         have r3:¬ 1 + 1 ≤ 1:=by omega
         (repeat first|simp only [ww]|(apply xa;simp +decide only [go_sem,hks,hget,s1,s3,s5,s6,s7,s8,hw,hwl,hbl,hwo,hbo,hwb,hbw,hrl,r3,heapF_setF,List.length_set,List.length_map,heapF_hiS,heapF_hi0,heapF_hi,heapF_lo,set_hi0,set_hi,set_lo,lt_add1,lt_add_s,List.append_assoc,List.cons_append,List.nil_append];rfl;kernel_rfl))
         obtain ⟨F1,H2,e1,e2⟩:=hend _ (hG.upd (k:=k) (n:=H1.length + 2) (f:=[x].map intR) (x:=(mrgC q p).cells) (z:=intR i) (H1:=(H1.set w (some (.row 2 ((outs.map Cb.cells).set k (mrgC q p).cells)))).set b (some (.row 1 ((rows2 ids (cpG gs) (foG gs)).set k [.slice (H1.length + 2) 0 2 none]))) ++ [some (.row 2 [p.cells]),some (.row 1 [[.int .i64 i]]),some (.row 1 [[.int .i64 x],[.int .i64 i]])]) hfoG hmx rfl (by omega)
          (by rw [heapF_lo (eq_true (by simpa using hwl)),heapF_set_ne (Ne.symm hG.wb),heapF_set_eq hwl]) (by rw [heapF_lo (eq_true (by simpa using hbl)),heapF_set_eq (by simpa using hbl)];rfl) (by rw [hS2];rfl) (fun c hc h2 h3 _=>lS2 hc h2 h3))
         exact lpJ_n (ps.length - (i + 1)) (by omega) ⟨F1,H2,(gcD_keep (by simp +decide only [go_sem]<;>rfl)).trans e1,e2⟩
        | cons y t=>
         have hcpk:cpG gs k = none:=by unfold cpG;rw [hgk]
         have hget:(rows2 ids (cpG gs) (foG gs))[k]? = some [.slice (ids k) 0 (t.length + 1 + 1) none]:=by
          rw [hget0,hcpk]
          show some [AV.slice (ids k) 0 ((intR y :: t.map intR).length + 1) none] = _
          simp
         have s1':HeapF H1 (ids k) = some (.row 1 ([.int .i64 x] :: [.int .i64 y] :: t.map intR)):=s1
         have r3:t.length + 1 + 1 + 1 ≤ 1000000000:=by simp only [List.length_cons] at hgle;omega
         (repeat first|simp only [ww]|(apply xa;simp +decide only [go_sem,hks,hget,s1',s3,s5,s6,s7,s8,hw,hwl,hbl,hwo,hbo,hwb,hbw,hrl,r3,heapF_setF,List.length_set,List.length_map,List.length_cons,heapF_hiS,heapF_hi0,heapF_hi,heapF_lo,set_hi0,set_hi,set_lo,lt_add1,lt_add_s,List.append_assoc,List.cons_append,List.nil_append];rfl;kernel_rfl))
         obtain ⟨F1,H2,e1,e2⟩:=hend _ (hG.upd (k:=k) (n:=H1.length + 2) (f:=(x :: y :: t).map intR) (x:=(mrgC q p).cells) (z:=intR i) (H1:=((H1.set w (some (.row 2 ((outs.map Cb.cells).set k (mrgC q p).cells)))).set (ids k) none).set b (some (.row 1 ((rows2 ids (cpG gs) (foG gs)).set k [.slice (H1.length + 2) 0 (t.length + 1 + 1 + 1) none]))) ++ [some (.row 2 [p.cells]),some (.row 1 [[.int .i64 i]]),some (.row 1 ([.int .i64 x] :: [.int .i64 y] :: (t.map intR ++ [[.int .i64 i]])))]) hfoG hmx rfl (by omega)
          (by rw [heapF_lo (eq_true (by simpa using hwl)),heapF_set_ne (Ne.symm hG.wb),heapF_set_ne s4,heapF_set_eq hwl]) (by rw [heapF_lo (eq_true (by simpa using hbl)),heapF_set_eq (by simpa using hbl)];simp) (by rw [hS3];rfl) (fun c hc h2 h3 h5=>by rw [heapF_lo (eq_true (by simpa using hc)),heapF_set_ne (Ne.symm h3),heapF_set_ne (Ne.symm (h5 (by simp))),heapF_set_ne (Ne.symm h2)]))
         exact lpJ_n (ps.length - (i + 1)) (by omega) ⟨F1,H2,(gcD_keep (by simp +decide only [go_sem]<;>rfl)).trans e1,e2⟩
    ·obtain rfl:i = ps.length:=by omega
     have c1:¬ (ps.length:Int) < ps.length:=by omega
     have hI:=hinv ps.length
     generalize hst:mrun ps ps.length = st at *
     obtain ⟨outs,gs⟩:=st
     dsimp only at hGS hI
     have hIl:=hI.len
     have hIle:=hI.le
     dsimp only at hIl hIle
     cases hGS with
     | nil h1 h2=>
      subst h1 h2
      have k1:=fun H=>callV_flat (E:=L.env) (draw:=false) (call:=sem L.env Mf) (g:=46) (fs:=[]) (cs:=[]) (ar:=[.nilslice]) (H:=H) (by kernel_rfl) (by kernel_rfl) rfl rfl clipP_nil rfl
      have k2:=fun H=>callV_flat (E:=L.env) (draw:=false) (call:=sem L.env Mf) (g:=47) (fs:=[]) (cs:=[]) (ar:=[.nilslice]) (H:=H) (by kernel_rfl) (by kernel_rfl) rfl rfl clipG_nil rfl
      (repeat first|simp only [ww]|(apply xa;simp +decide only [go_sem,c1];rfl;kernel_rfl))
      refine xp_lp kp19_4 (fun q F H1=>F = [(8,.nilslice),(9,.nilslice),(101,.int .i64 0),(102,.int .i64 0)] ∧ H1 = []) 0 ?_ ?_
      ·refine ⟨_,_,?_,rfl,rfl⟩
       (simp +decide only [go_sem,gcD_eq,gcIds_eq]<;>rfl)<;>rfl
      ·rintro q F H1 ⟨rfl,rfl⟩
       (repeat first|simp only [ww]|(apply xa;simp +decide only [go_sem,k1,k2];rfl;kernel_rfl))
       refine fqE_r (vs:=[.nilslice,.nilslice,.int .i64 0]) (r:=(_,_)) (by simp +decide only [go_sem]) (by simp +decide only [go_sem,finish]<;>rfl) rfl
     | some _ w b ids h1 hG=>
      (repeat first|simp only [ww]|(apply xa;simp +decide only [go_sem,c1];rfl;kernel_rfl))
      refine xp_lp kp19_4 (fun q F H1=>∃ (j w b:Nat) (ids:Nat → Nat),q = gs.length - j ∧ j ≤ gs.length ∧ F = [(8,.slice w 0 outs.length none),(9,.slice b 0 gs.length none),(101,.int .i64 gs.length),(102,.int .i64 j)] ∧ Gw H1 w b ids (cpC gs j) (outs.map Cb.cells) (foG gs)) gs.length ?_ ?_
      ·refine hG.head ?_ ?_ ?_ ?_ (by rw [foG_len];omega) ?_
       ·intro x hx;simp +decide only [go_sem] at hx;simpa using hx
       ·simp +decide only [go_sem]<;>simp
       ·simp +decide only [go_sem]<;>simp
       ·simp +decide only [go_sem]<;>simp
       ·intro π w' b' ids' H2 hw' hb' hG'
        refine ⟨0,w',b',ids',rfl,Nat.zero_le _,?_,gw_cp hG' (fun j _=>by simp [cpC])⟩
        simp +decide only [go_sem,hw',hb']<;>rfl
      ·rintro q F H1 ⟨j,w,b,ids,rfl,hj,rfl,hG⟩
       have hwl:=heapF_lt hG.out
       have hbl:=heapF_lt hG.two.top
       have hbo:=hG.two.top
       have hrl:(rows2 ids (cpC gs j) (foG gs)).length = gs.length:=by rw [rows2_len,foG_len]
       by_cases hjl:j < gs.length
       ·obtain ⟨g,hgj⟩:∃ g,gs[j]? = some g:=⟨_,List.getElem?_eq_getElem hjl⟩
        have hgne:=(hI.ne g (List.mem_of_getElem? hgj)).1
        have hfoG:=foG_get hgj
        have hgm:g.map intR ≠ []:=by simpa using hgne
        obtain ⟨s1,s2⟩:=hG.two.sub j _ hfoG hgm
        have hget:(rows2 ids (cpC gs j) (foG gs))[j]? = some [.slice (ids j) 0 g.length (cpG gs j)]:=by
         rw [rows2_get hfoG,slV_ne _ _ hgm,List.length_map]
         simp [cpC]
        have hcl:=clipA_call (d:=false) (H:=H1) (b:=ids j) (n:=g.length) (c:=cpG gs j) (by
         unfold cpG;rw [hgj]
         cases g with
         | nil=>exact absurd rfl hgne
         | cons x t=>cases t with
          | nil=>exact .inr rfl
          | cons y t=>exact .inl rfl) (flatI g) s1
        have d1:(j:Int) < gs.length:=by omega
        have hw:=wI1 (n:=j) (by omega)
        (repeat first|simp only [ww]|(apply xa;simp +decide only [go_sem,d1,hjl,hget,hcl,hbo,hbl,hrl,hw];rfl;kernel_rfl))
        refine lpJ_n (gs.length - (j + 1)) (by omega) ?_
        refine (hG.clip (j:=j) (c:=g.length) (H1:=H1.set b (some (.row 1 ((rows2 ids (cpC gs j) (foG gs)).set j [.slice (ids j) 0 g.length (some g.length)])))) hfoG (by rw [heapF_set_eq hbl,slV_ne _ _ hgm,List.length_map]) (fun c hc=>heapF_set_ne (Ne.symm hc))).head ?_ ?_ ?_ ?_ (by rw [foG_len];omega) ?_
        ·intro x hx;simp +decide only [go_sem] at hx;simpa using hx
        ·simp +decide only [go_sem]<;>simp
        ·simp +decide only [go_sem]<;>simp
        ·simp +decide only [go_sem]<;>simp
        ·intro π w' b' ids' H2 hw' hb' hG'
         refine ⟨j + 1,w',b',ids',rfl,hjl,?_,gw_cp hG' (fun i _=>?_)⟩
         ·simp +decide only [go_sem,hw',hb']<;>rfl
         ·unfold cpC
          by_cases hij:i = j
          ·subst hij;rw [if_pos rfl,if_pos (by omega),hgj];rfl
          ·rw [if_neg hij]
           by_cases h2:i < j
           ·rw [if_pos h2,if_pos (by omega)]
           ·rw [if_neg h2,if_neg (by omega)]
       ·obtain rfl:j = gs.length:=by omega
        have d1:¬ (gs.length:Int) < gs.length:=by omega
        have k1:=clipP_call (d:=false) (H:=H1) (b:=w) (n:=outs.length) (flatP outs) hG.out
        obtain ⟨H',σ,ids',k2,hG',hlen⟩:=callV_pass (E:=L.env) (d:=false) (call:=sem L.env Mf) (g:=47) (n:=gs.length) (c:=none) (c':=some gs.length) (by kernel_rfl) (by kernel_rfl) hG (by rw [foG_len];omega) (fun H0 b' R hR hlow=>clipG_ok gs.length H0 b' R hR hlow)
        (repeat first|simp only [ww]|(apply xa;simp +decide only [go_sem,d1,k1,k2];rfl;kernel_rfl))
        have z1:=hG'.two.frz (some gs.length)
        rw [foG_len] at z1
        have z2:frzV 0 true (frzD (HeapF H') 0 12) (.slice w 0 outs.length (some outs.length)) = some (.islice (outs.map Cb.cells) (some outs.length)):=by
         have ht:List.take outs.length (outs.map Cb.cells) = outs.map Cb.cells:=List.take_of_length_le (by simp)
         have hf:=frzR_flat (m:=0) (d:=frzD (HeapF H') 0 11) (flatP outs)
         have ho:=hG'.out
         simp +decide only [go_sem,ho,ht,hf,List.length_map]<;>rfl
        refine fqE_r (vs:=[.slice w 0 outs.length (some outs.length),.slice b 0 gs.length (some gs.length),.int .i64 0]) (r:=(_,_)) (by simp +decide only [go_sem]) ?_ rfl
        have hro:resO outs = .islice (outs.map Cb.cells) (some outs.length):=by
         cases outs with
         | nil=>exact absurd rfl h1
         | cons x t=>rfl
        have hg1:gs ≠ []:=by intro e;rw [e] at hIl;exact h1 (List.eq_nil_of_length_eq_zero hIl)
        have hrg:resG gs = .islice (gs.map fun g=>[lsV g]) (some gs.length):=by
         cases gs with
         | nil=>exact absurd rfl hg1
         | cons x t=>rfl
        have hmi:((foG gs).mapIdx fun j f=>[slF (cpC gs gs.length j) f]) = gs.map fun g=>[lsV g]:=by
         apply List.ext_getElem?
         intro j
         rw [List.getElem?_mapIdx,List.getElem?_map]
         cases hgj:gs[j]? with
         | none=>simp [foG,hgj]
         | some g=>
          have hjl:=(List.getElem?_eq_some_iff.1 hgj).1
          rw [foG_get hgj]
          simp only [Option.map_some,cpC,if_pos hjl,hgj]
          cases g with
          | nil=>exact absurd rfl (hI.ne [] (List.mem_of_getElem? hgj)).1
          | cons x t=>simp [slF,lsV]
        rw [hmi] at z1
        rw [hro,hrg]
        show finish false 0 _ H' = _
        have hz:frzV 0 true (frzD (HeapF H') 0 12) (.tuple [.slice w 0 outs.length (some outs.length),.slice b 0 gs.length (some gs.length),.int .i64 0]) = some (.tuple [.islice (outs.map Cb.cells) (some outs.length),.islice (gs.map fun g=>[lsV g]) (some gs.length),.int .i64 0]):=by
         simp +decide only [go_sem] at z1 z2
         simp +decide only [go_sem,z1,z2]<;>rfl
        rw [finish_eq,oneOf_two,hz]
        rfl
theorem pmerge_call (H:Heap) (c:Option (Option Nat)) (ps:List Cb) (n m:Nat) (h:∀ p ∈ ps,p.sh n m) (hl:ps.length ≤ 100):callV L.env false (sem L.env Mf) (.func (.func 19) [] []) [sl c (ps.map Cb.cells)] H = some (.tuple [resO (mrun ps ps.length).1,resG (mrun ps ps.length).2,.int .i64 0],H,[]):=by
 obtain ⟨r,rfl,hr⟩:=pmerge_ok c ps n m h hl
 have h1:∀ l,refs (resO l) = []:=fun l=>by cases l<;>rfl
 have h2:∀ l,refs (resG l) = []:=fun l=>by cases l<;>rfl
 exact callV_flat (by kernel_rfl) (by kernel_rfl) rfl (by simp [refsL,refs_sl]) hr (by simp [refs,refsL,h1,h2])
end Go.KInst
