/- Part of a proof. No condition. -/
import Derived.Test.YtbmkmaobejlkgaaDoorKMrg16
set_option linter.unusedSimpArgs false
set_option linter.unusedVariables false
namespace Go.KInst
open Go.Proofs Go.Ax Go.Pc
set_option maxRecDepth 100000
theorem hiS0 {H L:Heap} {a:Nat} {o:Option AObj}:HeapF (H.set a o ++ L) H.length = HeapF L 0:=heapF_hiS 0
theorem hiSS0 {H L:Heap} {a a':Nat} {o o':Option AObj}:HeapF ((H.set a o).set a' o' ++ L) H.length = HeapF L 0:=hS2 0
/-- Capacities of what was frozen. -/
def cW {α:Type}:List α → Option (Option Nat)|[]=>none|_=>some none
def cL {α:Type}:List α → Option (Option Nat)|[]=>none|_ :: r=>some (some (r.length + 1))
theorem resS_sl (ps:List Cb):resS ps = sl (cW ps) (ps.map Cb.cells):=by cases ps<;>rfl
theorem resO_sl (ps:List Cb):resO ps = sl (cL ps) (ps.map Cb.cells):=by cases ps<;>rfl
theorem resG_sl (gs:List (List Nat)):resG gs = sl (cL gs) (gs.map fun g=>[lsV g]):=by cases gs<;>rfl
theorem lsV_sl (g:List Nat):lsV g = sl (cL g) (g.map intR):=by cases g<;>rfl
/-- A frozen list of groups. -/
def pRow (g:List Nat):AV:=match g with
 | []=>.nilslice
 | [x]=>.islice [intR x] (some 1)
 | g=>.islice (g.map intR) none
theorem prow_eq (gs:List (List Nat)):((foG gs).mapIdx fun j f=>[slF (cpG gs j) f]) = gs.map fun g=>[pRow g]:=by
 apply List.ext_getElem?
 intro j
 rw [List.getElem?_mapIdx,List.getElem?_map]
 cases hgj:gs[j]? with
 | none=>simp [foG,hgj]
 | some g=>
  rw [foG_get hgj]
  simp only [Option.map_some,cpG,hgj]
  cases g with
  | nil=>rfl
  | cons x t=>cases t<;>rfl
theorem gs_frz {outs:List Cb} {gs:List (List Nat)} {H:Heap} {V1 V2:AV} (hl:outs.length = gs.length) (h:GS outs gs H V1 V2) :
 frzV 0 true (frzD (HeapF H) 0 12) V1 = some (sl (cW outs) (outs.map Cb.cells)) ∧ frzV 0 true (frzD (HeapF H) 0 12) V2 = some (sl (cW gs) (gs.map fun g=>[pRow g])):=by
 cases h with
 | nil h1 h2=>subst h1 h2;exact ⟨rfl,rfl⟩
 | some _ w b ids h1 hG=>
  constructor
  ·have ht:List.take outs.length (outs.map Cb.cells) = outs.map Cb.cells:=List.take_of_length_le (by simp)
   have hf:=frzR_flat (m:=0) (d:=frzD (HeapF H) 0 11) (flatP outs)
   have ho:=hG.out
   have e:sl (cW outs) (outs.map Cb.cells) = .islice (outs.map Cb.cells) none:=by
    cases outs with
    | nil=>exact absurd rfl h1
    | cons a r=>rfl
   rw [e]
   simp +decide only [go_sem,ho,ht,hf,List.length_map]<;>rfl
  ·have z:=hG.two.frz none
   rw [foG_len,prow_eq] at z
   have e:sl (cW gs) (gs.map fun g=>[pRow g]) = .islice (gs.map fun g=>[pRow g]) none:=by
    cases gs with
    | nil=>exact absurd (List.eq_nil_of_length_eq_zero hl) h1
    | cons a r=>rfl
   rw [e];exact z
theorem shaped_call {d:Bool} (H:Heap) (c:Option (Option Nat)) (ls:List Bl) (hb:∀ r ∈ ls,∀ x ∈ r.l,x < 256) (hl:ls.length ≤ 100) (z:Nat) (hz:z < 256) :
 callV L.env d (sem L.env Mf) (.func (.func 18) [] []) [sl c (ls.map Bl.enc),.int .u8 z] H = some (sl (cW (ls.map fun r=>shC (z % 4) (z / 4 % 3) r.l)) ((ls.map fun r=>shC (z % 4) (z / 4 % 3) r.l).map Cb.cells),H,[]):=by
 have h:=shaped_ok c ls hb hl z hz
 rw [resS_sl] at h
 exact callV_flat (by kernel_rfl) (by kernel_rfl) rfl (by simp [refsL,refs_sl,refs]) h (refs_sl _ _)
theorem pm_call (H:Heap) (c:Option (Option Nat)) (ps:List Cb) (n m:Nat) (h:∀ p ∈ ps,p.sh n m) (hl:ps.length ≤ 100):callV L.env false (sem L.env Mf) (.func (.func 19) [] []) [sl c (ps.map Cb.cells)] H =
 some (.tuple [sl (cL (mrun ps ps.length).1) ((mrun ps ps.length).1.map Cb.cells),sl (cL (mrun ps ps.length).2) ((mrun ps ps.length).2.map fun g=>[lsV g]),.int .i64 0],H,[]):=by
 have:=pmerge_call H c ps n m h hl
 rw [resO_sl,resG_sl] at this
 exact this
set_option maxHeartbeats 200000000 in
theorem merges_ok (c:Option (Option Nat)) (ls:List Bl) (hb:∀ r ∈ ls,∀ x ∈ r.l,x < 256) (z:Nat) (hz:z < 256):sem L.env Mf 5 [sl c (ls.map Bl.enc),.int .u8 z] [] = some (.bool true,[]):=by
 have hlv:=fun H=>lives_call (d:=false) H
 suffices hs:∃ r:AV × Heap,(r = (.bool true,[])) ∧ sem L.env Mf 5 [sl c (ls.map Bl.enc),.int .u8 z] [] = some r by
  obtain ⟨r,rfl,h3⟩:=hs
  exact h3
 by_cases hbig:12 < ls.length
 ·have c0:(12:Int) < ls.length:=by omega
  (refine svE Tryd.f5 ?_;simp only [Tryd.f5,gS])
  (repeat first|simp only [ww]|(apply xa;simp +decide only [go_sem,List.length_map,c0,hlv];rfl;kernel_rfl))
  refine fqE_r (vs:=[.bool true]) (r:=(_,_)) (by simp +decide only [go_sem]) ?_ rfl
  simp +decide only [go_sem,finish]<;>rfl
 have c0:¬ (12:Int) < ls.length:=by omega
 have hsc:=shaped_call (d:=false) [] c ls hb (by omega) z hz
 have hnm:z % 4 + z / 4 % 3 ≤ 100:=by omega
 have hps:∀ p ∈ (ls.map fun r=>shC (z % 4) (z / 4 % 3) r.l),p.sh (z % 4) (z / 4 % 3):=by
  intro p hp
  obtain ⟨r,_,rfl⟩:=List.mem_map.1 hp
  exact shC_sh _ _ hnm _
 have hpl:(ls.map fun r=>shC (z % 4) (z / 4 % 3) r.l).length ≤ 12:=by simp;omega
 generalize (ls.map fun r=>shC (z % 4) (z / 4 % 3) r.l) = ps at hsc hps hpl
 generalize z % 4 = n at hps hnm
 generalize z / 4 % 3 = m at hps hnm
 have hpm:=pm_call [] (cW ps) ps n m hps (by omega)
 have hMI:=mrun_inv hps ps.length
 have hPI:=mrun_pinv hps ps.length
 have hAG:=mrun_again hps ps.length
 obtain ⟨hRS1,hRS2⟩:=run_same hps ps.length
 have hWI:=fun i=>wrun_inv hps i
 generalize hmr:mrun ps ps.length = st at hpm hMI hPI hAG hRS1 hRS2
 obtain ⟨outs,gs⟩:=st
 dsimp only at hpm hRS1 hRS2 hAG
 have hlen:=hMI.len
 have hole:=hMI.le
 dsimp only at hlen hole
 have e0:(outs.length:Int) = gs.length:=by omega
 have e0':((outs.length:Int) = (gs.length:Int)) = True:=eq_true e0
 (refine svE Tryd.f5 ?_;simp only [Tryd.f5,gS])
 (repeat first|simp only [ww]|(apply xa;simp +decide only [go_sem,List.length_map,c0,hsc,hpm,e0,hlen];rfl;kernel_rfl))
 refine xp_lpZ kp5_0 rfl (fun q F H1=>∃ (i:Nat) (V1 V2:AV),q = ps.length - i ∧ i ≤ ps.length ∧ F = [(5,sl (cW ps) (ps.map Cb.cells)),(6,sl (cL outs) (outs.map Cb.cells)),(7,sl (cL gs) (gs.map fun g=>[lsV g])),(9,V1),(10,V2),(11,.int .i64 i),(1000000,.junk)] ∧ GS (wrun ps i).1 (wrun ps i).2 H1 V1 V2) ps.length ?_ ?_
 ·refine ⟨_,_,?_,0,.nilslice,.nilslice,rfl,Nat.zero_le _,rfl,.nil rfl rfl⟩
  (simp +decide only [go_sem,gcD_eq,gcIds_eq]<;>rfl)<;>rfl
 ·rintro q F H1 ⟨i,V1,V2,rfl,hi,rfl,hGS⟩
  by_cases hlt:i < ps.length
  ·obtain ⟨p,hp⟩:∃ p,ps[i]? = some p:=⟨_,List.getElem?_eq_getElem hlt⟩
   have hs:=hps p (List.mem_of_getElem? hp)
   have hI:=hWI i
   have hms:=wrun_succ hp
   have hg:(ps.map Cb.cells)[i]? = some [sl p.ci (p.ins.map u8R),sl p.cs (p.sts.map u8R)]:=by rw [List.getElem?_map,hp];rfl
   have c1:(i:Int) < ps.length:=by omega
   have hw:=wI1 (n:=i) (by omega)
   have hPC:p.cells = [sl p.ci (p.ins.map u8R),sl p.cs (p.sts.map u8R)]:=rfl
   generalize hst:wrun ps i = st at *
   obtain ⟨ws,qs⟩:=st
   dsimp only at hGS hI
   have hIl:=hI.len
   have hIle:=hI.le
   dsimp only at hIl hIle
   (repeat first|simp only [ww]|(apply xa;simp +decide only [go_sem,c1,List.length_map];rfl;kernel_rfl))
   refine xp_lp kp5_2 (fun q F H2=>∃ (k:Nat) (at':Int) (V1 V2:AV),q = ws.length + 1 - k ∧ k ≤ ws.length ∧ F = [(5,sl (cW ps) (ps.map Cb.cells)),(6,sl (cL outs) (outs.map Cb.cells)),(7,sl (cL gs) (gs.map fun g=>[lsV g])),(9,V1),(10,V2),(11,.int .i64 i),(12,.int .i64 at'),(13,.int .i64 k)] ∧ GS ws qs H2 V1 V2 ∧ ((at' = -1 ∧ ∀ (j:Nat) (x:Cb),j < k → ws[j]? = some x → cmpB x p = false) ∨ ∃ k0:Nat,at' = k0 ∧ ws.findIdx? (fun w=>cmpB w p) = some k0)) (ws.length + 1) ?_ ?_
   ·cases hGS with
    | nil h1 h2=>
     refine ⟨_,?_,?_,0,-1,.nilslice,.nilslice,rfl,Nat.zero_le _,rfl,?_,.inl ⟨rfl,fun j x hj=>absurd hj (Nat.not_lt_zero j)⟩⟩
     rotate_left
     ·(simp +decide only [go_sem,gcD_eq,gcIds_eq]<;>rfl)<;>rfl
     ·exact .nil h1 h2
    | some _ w b ids h1 hG=>
     refine hG.head ?_ ?_ ?_ ?_ (by rw [foG_len];omega) ?_
     ·intro x hx;simp +decide only [go_sem] at hx;simpa using hx
     ·simp +decide only [go_sem]<;>simp
     ·simp +decide only [go_sem]<;>simp
     ·simp +decide only [go_sem]<;>simp
     ·intro π w' b' ids' H2 hw' hb' hG'
      refine ⟨0,-1,.slice w' 0 ws.length none,.slice b' 0 qs.length none,rfl,Nat.zero_le _,?_,.some _ _ _ _ h1 hG',.inl ⟨rfl,fun j x hj=>absurd hj (Nat.not_lt_zero j)⟩⟩
      simp +decide only [go_sem,hw',hb']<;>rfl
   ·rintro q F H2 ⟨k,at',V1,V2,rfl,hk,rfl,hGS,hat⟩
    cases hGS with
    | nil h1 h2=>
     subst h1 h2
     have hk0:k = 0:=by simpa using hk
     subst hk0
     rcases hat with ⟨rfl,_⟩|⟨k0,_,hk0⟩
     ·have hn0:wstep ([],[]) i p = ([p],[[i]]):=rfl
      have e1:¬ ((0:Nat):Int) < 0:=by omega
      (repeat first|simp only [ww]|(apply xa;simp +decide only [go_sem,e1,c1,hlt,hg,hw,List.length_map];rfl;kernel_rfl))
      have hG:=Gw.first (H1:=[some (.row 2 [p.cells]),some (.row 2 [p.cells]),some (.row 1 [[.int .i64 i]]),some (.row 1 [[.slice 2 0 1 (some 1)]]),some (.row 1 [[.slice 2 0 1 (some 1)]])])
       (w':=1) (b':=4) (x':=2) (x:=p.cells) (z:=intR i) (q:=some 1) (by simpa [refsL,refs,Cb.enc] using enc_refs p) rfl rfl rfl rfl (by omega) (by omega) (by omega)
      refine lpJ_n (ps.length - (i + 1)) (by omega) ?_
      refine hG.head ?_ ?_ ?_ ?_ (by simp) ?_
      ·intro x hx;simp +decide only [go_sem] at hx;simpa using hx
      ·simp +decide only [go_sem]<;>simp
      ·simp +decide only [go_sem]<;>simp
      ·simp +decide only [go_sem]<;>simp
      ·intro π w' b' ids' H1 hw' hb' hG'
       refine ⟨i + 1,.slice w' 0 1 none,.slice b' 0 1 none,rfl,hlt,?_,?_⟩
       ·simp +decide only [go_sem,hw',hb']<;>rfl
       ·rw [hms,hn0]
        exact .some H1 w' b' ids' (by simp) (gw_cp hG' (fun j hj=>by
         have:j = 0:=by simpa [foG] using hj
         subst this;rfl))
     ·simp at hk0
    | some _ w b ids h1 hG=>
     have hop:0 < ws.length:=List.length_pos_iff.2 h1
     have hwl:=heapF_lt hG.out
     have hbl:=heapF_lt hG.two.top
     have hwo:=hG.out
     have hbo:=hG.two.top
     have hwb:=eq_false hG.wb
     have hbw:=eq_false (Ne.symm hG.wb)
     have hrl:(rows2 ids (cpG qs) (foG qs)).length = qs.length:=by rw [rows2_len,foG_len]
     rcases hat with ⟨rfl,hbef⟩|⟨k0,rfl,hfi⟩
     ·by_cases hkl:k < ws.length
      ·obtain ⟨x,hx⟩:∃ x,ws[k]? = some x:=⟨_,List.getElem?_eq_getElem hkl⟩
       have hxs:=hI.sh x (List.mem_of_getElem? hx)
       have e1:(k:Int) < ws.length:=by omega
       have hkw:=wI1 (n:=k) (by omega)
       have hqg:(ws.map Cb.cells)[k]? = some [sl x.ci (x.ins.map u8R),sl x.cs (x.sts.map u8R)]:=by rw [List.getElem?_map,hx];rfl
       have hcm:∀ H,callV L.env true (sem L.env Mf) (.func (.func 20) [] []) [.agg [sl x.ci (x.ins.map u8R),sl x.cs (x.sts.map u8R)],.agg [sl p.ci (p.ins.map u8R),sl p.cs (p.sts.map u8R)]] H = some (.bool (cmpB x p),H,[]):=fun H=>compat_call H x p (hxs.two hs)
       have hfix:∀ (a':Int),((a' = -1 ∧ ∀ (j:Nat) (x:Cb),j < k + 1 → ws[j]? = some x → cmpB x p = false) ∨ ∃ k0:Nat,a' = k0 ∧ ws.findIdx? (fun w=>cmpB w p) = some k0) →
        ∃ F1 H3,gcD 0 [5,6,7,9,10,11,12,13] [(5,sl (cW ps) (ps.map Cb.cells)),(6,sl (cL outs) (outs.map Cb.cells)),(7,sl (cL gs) (gs.map fun g=>[lsV g])),(9,.slice w 0 ws.length none),(10,.slice b 0 qs.length none),(11,.int .i64 i),(12,.int .i64 a'),(13,.int .i64 (k + 1:Nat))] H2 = some (F1,H3) ∧
         ∃ (k':Nat) (at':Int) (V1 V2:AV),ws.length + 1 - (k + 1) = ws.length + 1 - k' ∧ k' ≤ ws.length ∧ F1 = [(5,sl (cW ps) (ps.map Cb.cells)),(6,sl (cL outs) (outs.map Cb.cells)),(7,sl (cL gs) (gs.map fun g=>[lsV g])),(9,V1),(10,V2),(11,.int .i64 i),(12,.int .i64 at'),(13,.int .i64 k')] ∧ GS ws qs H3 V1 V2 ∧ ((at' = -1 ∧ ∀ (j:Nat) (x:Cb),j < k' → ws[j]? = some x → cmpB x p = false) ∨ ∃ k0:Nat,at' = k0 ∧ ws.findIdx? (fun w=>cmpB w p) = some k0):=by
        intro a' ha'
        refine hG.head ?_ ?_ ?_ ?_ (by rw [foG_len];omega) ?_
        ·intro x hx;simp +decide only [go_sem] at hx;simpa using hx
        ·simp +decide only [go_sem]<;>simp
        ·simp +decide only [go_sem]<;>simp
        ·simp +decide only [go_sem]<;>simp
        ·intro π w' b' ids' H3 hw' hb' hG'
         refine ⟨k + 1,a',.slice w' 0 ws.length none,.slice b' 0 qs.length none,rfl,hkl,?_,.some _ _ _ _ h1 hG',ha'⟩
         simp +decide only [go_sem,hw',hb']<;>rfl
       by_cases hc:cmpB x p = true
       ·rw [hc] at hcm
        (repeat first|simp only [ww]|(apply xa;simp +decide only [go_sem,e1,List.length_map];rfl;kernel_rfl))
        (repeat first|simp only [ww]|((with_reducible first|apply xs3|apply xI);(·simp +decide only [go_sem,hwl,hbl,hwo,hbo,hwb,hbw,hlt,hkl,hqg,hg,hcm,hkw,List.length_map];rfl);first|with_reducible apply xT|with_reducible apply xF|(·repeat' (first|exact logP_nil|exact rowP_nil|refine logP_cons ?_ ?_|refine rowP_ord (by simp only [List.length_cons,List.length_nil];decide +kernel) ?_|refine rowP_dis (clash_dis (by simp<;>omega) (by simp<;>omega) (by simp<;>omega)) ?_))))
        obtain ⟨F1,H3,g1,g2⟩:=hfix k (.inr ⟨k,rfl,by
         rw [List.findIdx?_eq_some_iff_getElem]
         refine ⟨hkl,?_,fun j hj=>?_⟩
         ·rw [(List.getElem?_eq_some_iff.1 hx).2];exact hc
         ·have hjl:j < ws.length:=by omega
          have:=hbef j ws[j] hj (List.getElem?_eq_getElem hjl)
          simp [this]⟩)
        exact lpJ_n (ws.length + 1 - (k + 1)) (by omega) ⟨F1,H3,(gcD_keep (by simp +decide only [go_sem]<;>rfl)).trans g1,g2⟩
       ·have hc:cmpB x p = false:=by simpa using hc
        rw [hc] at hcm
        (repeat first|simp only [ww]|(apply xa;simp +decide only [go_sem,e1,List.length_map];rfl;kernel_rfl))
        (repeat first|simp only [ww]|((with_reducible first|apply xs3|apply xI);(·simp +decide only [go_sem,hwl,hbl,hwo,hbo,hwb,hbw,hlt,hkl,hqg,hg,hcm,hkw,List.length_map];rfl);first|with_reducible apply xT|with_reducible apply xF|(·repeat' (first|exact logP_nil|exact rowP_nil|refine logP_cons ?_ ?_|refine rowP_ord (by simp only [List.length_cons,List.length_nil];decide +kernel) ?_|refine rowP_dis (clash_dis (by simp<;>omega) (by simp<;>omega) (by simp<;>omega)) ?_))))
        obtain ⟨F1,H3,g1,g2⟩:=hfix (-1) (.inl ⟨rfl,fun j y hj hy=>by
         rcases Nat.lt_succ_iff_lt_or_eq.1 hj with h|rfl
         ·exact hbef j y h hy
         ·rw [hx] at hy;injection hy with hy;rw [← hy];exact hc⟩)
        exact lpJ_n (ws.length + 1 - (k + 1)) (by omega) ⟨F1,H3,(gcD_keep (by simp +decide only [go_sem]<;>rfl)).trans g1,g2⟩
      ·obtain rfl:k = ws.length:=by omega
       have e1:¬ (ws.length:Int) < ws.length:=by omega
       have hfi:ws.findIdx? (fun w=>cmpB w p) = none:=by
        rw [List.findIdx?_eq_none_iff]
        intro y hy
        obtain ⟨j,hj⟩:=List.mem_iff_getElem?.1 hy
        exact hbef j y (List.getElem?_eq_some_iff.1 hj).1 hj
       have hn0:wstep (ws,qs) i p = (ws ++ [p],qs ++ [[i]]):=by unfold wstep;simp only [hfi]
       have r1:ws.length + 1 ≤ 1000000000:=by omega
       have r2:qs.length + 1 ≤ 1000000000:=by omega
       (repeat first|simp only [ww]|(apply xa;simp +decide only [go_sem,e1,c1,hlt,hg,hw,hwl,hbl,hwo,hbo,hwb,hbw,hrl,r1,r2,heapF_setF,List.length_set,List.length_map,heapF_hiS,heapF_hi0,heapF_hi,heapF_lo,set_hi0,set_hi,set_lo,lt_add1,lt_add_s,List.append_assoc,List.cons_append,List.nil_append];rfl;kernel_rfl))
       refine lpJ_n (ps.length - (i + 1)) (by omega) ?_
       refine (hG.new (w':=H2.length + 1) (b':=H2.length + 4) (x':=H2.length + 2) (x:=p.cells) (z:=intR i) (q:=some 1) (by simpa [refsL,refs,Cb.enc] using enc_refs p) rfl (by rw [hS2];rfl) (by rw [hS2];rfl) (by rw [hS2];rfl) (fun c hc h2 h3=>lS2 hc h2 h3) (by omega) (by omega) (by omega) (by omega) (by omega) (by omega)).head ?_ ?_ ?_ ?_ (by rw [List.length_append,foG_len];simp;omega) ?_
       ·intro x hx;simp +decide only [go_sem] at hx;simpa using hx
       ·simp +decide only [go_sem]<;>simp
       ·simp +decide only [go_sem]<;>simp
       ·simp +decide only [go_sem]<;>simp
       ·intro π w' b' ids' H2 hw' hb' hG'
        refine ⟨i + 1,.slice w' 0 (ws.length + 1) none,.slice b' 0 (qs.length + 1) none,rfl,hlt,?_,?_⟩
        ·simp +decide only [go_sem,hw',hb']<;>rfl
        ·rw [hms,hn0]
         have e1:ws.map Cb.cells ++ [p.cells] = (ws ++ [p]).map Cb.cells:=by rw [List.map_append];rfl
         have e2:foG qs ++ [[intR i]] = foG (qs ++ [[i]]):=by unfold foG;rw [List.map_append];rfl
         rw [e1,e2] at hG'
         have hfin:=GS.some (outs:=ws ++ [p]) (gs:=qs ++ [[i]]) H2 w' b' ids' (by simp) (gw_cp hG' (fun j hj=>cpG_app j (by rw [foG_len] at hj ⊢;simpa using hj)))
         simpa using hfin
     ·obtain ⟨hkl,hkc,_⟩:=List.findIdx?_eq_some_iff_getElem.1 hfi
      obtain ⟨q,hq⟩:∃ q,ws[k0]? = some q:=⟨_,List.getElem?_eq_getElem hkl⟩
      have hqe:ws[k0] = q:=(List.getElem?_eq_some_iff.1 hq).2
      rw [hqe] at hkc
      obtain ⟨g,hgk⟩:∃ g,qs[k0]? = some g:=⟨_,List.getElem?_eq_getElem (by omega)⟩
      have hqs:=hI.sh q (List.mem_of_getElem? hq)
      have hgne:=(hI.ne g (List.mem_of_getElem? hgk)).1
      have hgle:=(hI.ne g (List.mem_of_getElem? hgk)).2
      have hn0:wstep (ws,qs) i p = (ws.set k0 (mrgC q p),qs.set k0 (g ++ [i])):=by
       unfold wstep;simp only [hfi]
       rw [List.getD_eq_getElem?_getD,hq,List.getD_eq_getElem?_getD,hgk];rfl
      have hk00:¬ (k0:Int) < 0:=by omega
      have hqg:(ws.map Cb.cells)[k0]? = some [sl q.ci (q.ins.map u8R),sl q.cs (q.sts.map u8R)]:=by rw [List.getElem?_map,hq];rfl
      have hmr:∀ H,callV L.env true (sem L.env Mf) (.func (.func 21) [] []) [.agg [sl q.ci (q.ins.map u8R),sl q.cs (q.sts.map u8R)],.agg [sl p.ci (p.ins.map u8R),sl p.cs (p.sts.map u8R)]] H =
       some (.tuple [.agg [sl (mrgC q p).ci ((mrgC q p).ins.map u8R),sl (mrgC q p).cs ((mrgC q p).sts.map u8R)],.int .i64 0],H,[]):=fun H=>mrg_call H q p (hqs.two hs) hkc
      have hfoG:=foG_get hgk
      have hget0:=rows2_get (ids:=ids) (cp:=cpG qs) hfoG
      have hks:k0 < qs.length:=by omega
      have hgm:g.map intR ≠ []:=by simpa using hgne
      obtain ⟨s1,s2⟩:=hG.two.sub k0 _ hfoG hgm
      have s3:=heapF_lt s1
      have s4:=hG.wi k0 _ hfoG hgm
      have s5:=eq_false s4
      have s6:=eq_false (Ne.symm s4)
      have s7:=eq_false s2
      have s8:=eq_false (Ne.symm s2)
      have hcpn:∀ j,j < (foG (qs.set k0 (g ++ [i]))).length → (if j = k0 then none else cpG qs j) = cpG (qs.set k0 (g ++ [i])) j:=by
       intro j hj
       unfold cpG
       rw [List.getElem?_set]
       by_cases hjk:k0 = j
       ·subst hjk
        simp only [if_true,hks]
        cases g with
        | nil=>exact absurd rfl hgne
        | cons x t=>cases t<;>rfl
       ·rw [if_neg (Ne.symm hjk),if_neg hjk]
      have hend:∀ (H':Heap),Gw H' w b (fun i'=>if i' = k0 then H2.length + 1 else ids i') (fun i'=>if i' = k0 then none else cpG qs i') ((ws.map Cb.cells).set k0 (mrgC q p).cells) ((foG qs).set k0 (g.map intR ++ [intR i])) →
       ∃ F1 H3,gcD 0 [5,6,7,9,10,11,1000000] [(5,sl (cW ps) (ps.map Cb.cells)),(6,sl (cL outs) (outs.map Cb.cells)),(7,sl (cL gs) (gs.map fun g=>[lsV g])),(9,.slice w 0 ws.length none),(10,.slice b 0 qs.length none),(11,.int .i64 (i + 1:Nat)),(1000000,.junk)] H' = some (F1,H3) ∧
        (∃ (i':Nat) (V1 V2:AV),ps.length - (i + 1) = ps.length - i' ∧ i' ≤ ps.length ∧ F1 = [(5,sl (cW ps) (ps.map Cb.cells)),(6,sl (cL outs) (outs.map Cb.cells)),(7,sl (cL gs) (gs.map fun g=>[lsV g])),(9,V1),(10,V2),(11,.int .i64 i'),(1000000,.junk)] ∧ GS (wrun ps i').1 (wrun ps i').2 H3 V1 V2):=by
       intro H' hG'
       refine hG'.head ?_ ?_ ?_ ?_ (by rw [List.length_set,foG_len];omega) ?_
       ·intro x hx;simp +decide only [go_sem] at hx;simpa using hx
       ·simp +decide only [go_sem]<;>simp
       ·simp +decide only [go_sem]<;>simp
       ·simp +decide only [go_sem]<;>simp
       ·intro π w' b' ids' H3 hw' hb' hG''
        refine ⟨i + 1,.slice w' 0 ws.length none,.slice b' 0 qs.length none,rfl,hlt,?_,?_⟩
        ·simp +decide only [go_sem,hw',hb']<;>rfl
        ·rw [hms,hn0]
         have e1:(ws.map Cb.cells).set k0 (mrgC q p).cells = (ws.set k0 (mrgC q p)).map Cb.cells:=by rw [List.map_set]
         have e2:(foG qs).set k0 (g.map intR ++ [intR i]) = foG (qs.set k0 (g ++ [i])):=by
          unfold foG;rw [List.map_set,List.map_append];rfl
         rw [e1,e2] at hG''
         have hfin:=GS.some (outs:=ws.set k0 (mrgC q p)) (gs:=qs.set k0 (g ++ [i])) H3 w' b' ids' (by intro e;exact h1 (by simpa using e)) (gw_cp hG'' hcpn)
         simpa using hfin
      have hmc:(mrgC q p).cells = [sl (mrgC q p).ci ((mrgC q p).ins.map u8R),sl (mrgC q p).cs ((mrgC q p).sts.map u8R)]:=rfl
      have hmx:refsL (mrgC q p).cells = []:=by simpa [refsL,refs,Cb.enc] using enc_refs (mrgC q p)
      have hrun:True:=trivial
      by_cases e1:(k:Int) < ws.length
      all_goals
       (repeat first|simp only [ww]|(apply xa;simp +decide only [go_sem,e1,hk00,c1,hlt,hg,List.length_map];rfl;kernel_rfl))
       (repeat first|simp only [ww]|((with_reducible first|apply xs3|apply xI);(·simp +decide only [go_sem,hwl,hbl,hwo,hbo,hwb,hbw,hlt,hkl,hqg,hg,hmr,List.length_set,List.length_map,heapF_hiS,heapF_hi0,heapF_hi,heapF_lo,set_hi0,set_hi,set_lo,lt_add1,lt_add_s,List.append_assoc,List.cons_append,List.nil_append];rfl);first|with_reducible apply xT|with_reducible apply xF|(·repeat' (first|exact logP_nil|exact rowP_nil|refine logP_cons ?_ ?_|refine rowP_ord (by simp only [List.length_cons,List.length_nil];decide +kernel) ?_|refine rowP_dis (clash_dis (by simp<;>omega) (by simp<;>omega) (by simp<;>omega)) ?_))))
       cases g with
       | nil=>exact absurd rfl hgne
       | cons x t=>
        cases t with
        | nil=>
         have hcpk:cpG qs k0 = none ∨ cpG qs k0 = some 1:=.inr (by unfold cpG;rw [hgk])
         have hcpk:cpG qs k0 = some 1:=by unfold cpG;rw [hgk]
         have hget:(rows2 ids (cpG qs) (foG qs))[k0]? = some [.slice (ids k0) 0 1 (some 1)]:=by rw [hget0,hcpk];rfl
         have s1:HeapF H2 (ids k0) = some (.row 1 [[.int .i64 x]]):=s1
         have r3:¬ 1 + 1 ≤ 1:=by omega
         (repeat first|simp only [ww]|(apply xa;simp +decide only [go_sem,hks,hget,s1,s3,s5,s6,s7,s8,hw,hwl,hbl,hwo,hbo,hwb,hbw,hrl,r3,hiS0,hiSS0,heapF_setF,List.length_set,List.length_map,heapF_hiS,heapF_hi0,heapF_hi,heapF_lo,set_hi0,set_hi,set_lo,lt_add1,lt_add_s,List.append_assoc,List.cons_append,List.nil_append];rfl;kernel_rfl))
         obtain ⟨F1,H3,g1,g2⟩:=hend _ (hG.upd (k:=k0) (n:=H2.length + 1) (f:=[x].map intR) (x:=(mrgC q p).cells) (z:=intR i) (H1:=(H2.set w (some (.row 2 ((ws.map Cb.cells).set k0 (mrgC q p).cells)))).set b (some (.row 1 ((rows2 ids (cpG qs) (foG qs)).set k0 [.slice (H2.length + 1) 0 2 none]))) ++ [some (.row 1 [[.int .i64 i]]),some (.row 1 [[.int .i64 x],[.int .i64 i]])]) hfoG hmx rfl (by omega)
          (by rw [heapF_lo (eq_true (by simpa using hwl)),heapF_set_ne (Ne.symm hG.wb),heapF_set_eq hwl]) (by rw [heapF_lo (eq_true (by simpa using hbl)),heapF_set_eq (by simpa using hbl)];rfl) (by rw [hS2];rfl) (fun c hc h2 h3 _=>lS2 hc h2 h3))
         exact lpJ_n (ps.length - (i + 1)) (by omega) ⟨F1,H3,(gcD_keep (by simp +decide only [go_sem]<;>rfl)).trans g1,g2⟩
        | cons y t=>
         have hcpk:cpG qs k0 = none:=by unfold cpG;rw [hgk]
         have hget:(rows2 ids (cpG qs) (foG qs))[k0]? = some [.slice (ids k0) 0 (t.length + 1 + 1) none]:=by
          rw [hget0,hcpk]
          show some [AV.slice (ids k0) 0 ((intR y :: t.map intR).length + 1) none] = _
          simp
         have s1':HeapF H2 (ids k0) = some (.row 1 ([.int .i64 x] :: [.int .i64 y] :: t.map intR)):=s1
         have r3:t.length + 1 + 1 + 1 ≤ 1000000000:=by simp only [List.length_cons] at hgle;omega
         (repeat first|simp only [ww]|(apply xa;simp +decide only [go_sem,hks,hget,s1',s3,s5,s6,s7,s8,hw,hwl,hbl,hwo,hbo,hwb,hbw,hrl,r3,hiS0,hiSS0,heapF_setF,List.length_set,List.length_map,List.length_cons,heapF_hiS,heapF_hi0,heapF_hi,heapF_lo,set_hi0,set_hi,set_lo,lt_add1,lt_add_s,List.append_assoc,List.cons_append,List.nil_append];rfl;kernel_rfl))
         obtain ⟨F1,H3,g1,g2⟩:=hend _ (hG.upd (k:=k0) (n:=H2.length + 1) (f:=(x :: y :: t).map intR) (x:=(mrgC q p).cells) (z:=intR i) (H1:=((H2.set w (some (.row 2 ((ws.map Cb.cells).set k0 (mrgC q p).cells)))).set (ids k0) none).set b (some (.row 1 ((rows2 ids (cpG qs) (foG qs)).set k0 [.slice (H2.length + 1) 0 (t.length + 1 + 1 + 1) none]))) ++ [some (.row 1 [[.int .i64 i]]),some (.row 1 ([.int .i64 x] :: [.int .i64 y] :: (t.map intR ++ [[.int .i64 i]])))]) hfoG hmx rfl (by omega)
          (by rw [heapF_lo (eq_true (by simpa using hwl)),heapF_set_ne (Ne.symm hG.wb),heapF_set_ne s4,heapF_set_eq hwl]) (by rw [heapF_lo (eq_true (by simpa using hbl)),heapF_set_eq (by simpa using hbl)];simp) (by rw [hS3];rfl) (fun c hc h2 h3 h5=>by rw [heapF_lo (eq_true (by simpa using hc)),heapF_set_ne (Ne.symm h3),heapF_set_ne (Ne.symm (h5 (by simp))),heapF_set_ne (Ne.symm h2)]))
         exact lpJ_n (ps.length - (i + 1)) (by omega) ⟨F1,H3,(gcD_keep (by simp +decide only [go_sem]<;>rfl)).trans g1,g2⟩
  ·obtain rfl:i = ps.length:=by omega
   have c1:¬ (ps.length:Int) < ps.length:=by omega
   have hI:=hWI ps.length
   generalize hst:wrun ps ps.length = st at *
   obtain ⟨ws,qs⟩:=st
   dsimp only at hGS hI hRS1 hRS2
   have hIl:=hI.len
   dsimp only at hIl
   obtain ⟨z1,z2⟩:=gs_frz hIl hGS
   clear hst
   (repeat first|simp only [ww]|(apply xa;simp +decide only [go_sem,c1,List.length_map];rfl;kernel_rfl))
   rw [fz_rw]
   simp +decide only [go_sem,z1,z2]
   have hag:=hAG outs.length (Nat.le_refl _)
   rw [List.take_length] at hag
   have hpm2:=pm_call [] (cL outs) outs n m hMI.sh (by omega)
   rw [hag] at hpm2
   generalize (mrun outs outs.length).2 = ags at hpm2
   subst hRS2
   have hlw:ws.length = outs.length:=by
    have:=congrArg List.length hRS1
    simpa using this.symm
   (repeat first|simp only [ww]|(apply xa;simp +decide only [go_sem,hpm2,hlw,List.length_map];rfl;kernel_rfl))
   refine xp_lp kp5_4 (fun q F H2=>∃ (k:Nat),q = outs.length - k ∧ k ≤ outs.length ∧ F = [(5,sl (cW ps) (ps.map Cb.cells)),(6,sl (cL outs) (outs.map Cb.cells)),(7,sl (cL gs) (gs.map fun g=>[lsV g])),(9,sl (cW ws) (ws.map Cb.cells)),(10,sl (cW gs) (gs.map fun g=>[pRow g])),(14,sl (cL (outs.map relC)) ((outs.map relC).map Cb.cells)),(17,.int .i64 k)] ∧ H2 = []) outs.length ?_ ?_
   ·refine ⟨_,_,?_,0,rfl,Nat.zero_le _,rfl,rfl⟩
    (simp +decide only [go_sem,gcD_eq,gcIds_eq]<;>rfl)<;>rfl
   ·rintro q F H2 ⟨k,rfl,hk,rfl,rfl⟩
    by_cases hkl:k < outs.length
    ·obtain ⟨o,ho⟩:∃ o,outs[k]? = some o:=⟨_,List.getElem?_eq_getElem hkl⟩
     obtain ⟨w,hw⟩:∃ w,ws[k]? = some w:=⟨_,List.getElem?_eq_getElem (by omega)⟩
     have hgl:k < gs.length:=by omega
     have hwl:k < ws.length:=by omega
     obtain ⟨g,hg⟩:∃ g,gs[k]? = some g:=⟨_,List.getElem?_eq_getElem hgl⟩
     have hgne:=(hMI.ne g (List.mem_of_getElem? hg)).1
     have hgle:=(hMI.ne g (List.mem_of_getElem? hg)).2
     have hos:=hMI.sh o (List.mem_of_getElem? ho)
     have hon:o.n ≤ 100000:=by unfold Cb.n;rw [hos.ins,hos.sts];omega
     have how:nz o = nz w:=by
      have:=congrArg (fun l=>(l:List Cb)[k]?) hRS1
      simpa [ho,hw] using this
     obtain ⟨how1,how2⟩:=nz_ins how
     have e1:(k:Int) < outs.length:=by omega
     have hkw:=wI1 (n:=k) (by omega)
     have hqo:(outs.map Cb.cells)[k]? = some [sl o.ci (o.ins.map u8R),sl o.cs (o.sts.map u8R)]:=by rw [List.getElem?_map,ho];rfl
     have hqw:(ws.map Cb.cells)[k]? = some [sl w.ci (w.ins.map u8R),sl w.cs (w.sts.map u8R)]:=by rw [List.getElem?_map,hw];rfl
     have hqa:((outs.map relC).map Cb.cells)[k]? = some [sl (relC o).ci ((relC o).ins.map u8R),sl (relC o).cs ((relC o).sts.map u8R)]:=by rw [List.getElem?_map,List.getElem?_map,ho];rfl
     have hqg:(gs.map fun g=>[lsV g])[k]? = some [sl (cL g) (g.map intR)]:=by rw [List.getElem?_map,hg,Option.map_some,lsV_sl]
     obtain ⟨cc,hcc⟩:∃ cc,pRow g = .islice (g.map intR) cc:=by
      cases g with
      | nil=>exact absurd rfl hgne
      | cons a r=>cases r with
       | nil=>exact ⟨_,rfl⟩
       | cons b r=>exact ⟨_,rfl⟩
     have hqp:(gs.map fun g=>[pRow g])[k]? = some [.islice (g.map intR) cc]:=by rw [List.getElem?_map,hg,Option.map_some,hcc]
     have hs1:∀ H,callV L.env true (sem L.env Mf) (.func (.func 22) [] []) [.agg [sl o.ci (o.ins.map u8R),sl o.cs (o.sts.map u8R)],.agg [sl w.ci (w.ins.map u8R),sl w.cs (w.sts.map u8R)]] H = some (.bool true,H,[]):=fun H=>same_call H o w how1 how2 hon
     have hs2:∀ H,callV L.env true (sem L.env Mf) (.func (.func 22) [] []) [.agg [sl (relC o).ci ((relC o).ins.map u8R),sl (relC o).cs ((relC o).sts.map u8R)],.agg [sl o.ci (o.ins.map u8R),sl o.cs (o.sts.map u8R)]] H = some (.bool true,H,[]):=fun H=>same_call H (relC o) o rfl rfl hon
     have hI1:∀ (H:Heap) (b:Nat) (c:Option Nat),HeapF H b = some (.row 1 (g.map intR)) → callV L.env true (sem L.env Mf) (.func (.func 16) [] []) [sl (cL g) (g.map intR),.slice b 0 g.length c] H = some (.int .i64 0,H,[b]):=fun H b c h=>by
      rw [← lsV_sl];exact ints_call (by omega) h
     have hz1:¬ g.length ≤ 0:=by have:=List.length_pos_iff.2 hgne;omega
     have hr1:g.length ≤ 1000000000:=by omega
     have ht1:=takeI g
     (repeat first|simp only [ww]|(apply xa;simp +decide only [go_sem,e1,List.length_map];rfl;kernel_rfl))
     (repeat first|simp only [ww]|((with_reducible first|apply xs2|apply xI);(·simp +decide only [go_sem,hkl,hgl,hwl,hlw,hqo,hqw,hqa,hqg,hqp,hs1,hs2,hI1,hz1,hr1,ht1,lenI,stoI,List.length_map];rfl);with_reducible first|apply xT|apply xF|(·kernel_rfl)))
     refine xp_lp kp5_6 (fun q F H2=>∃ (t:Nat),q = g.length - t ∧ t ≤ g.length ∧ F = [(5,sl (cW ps) (ps.map Cb.cells)),(6,sl (cL outs) (outs.map Cb.cells)),(7,sl (cL gs) (gs.map fun g=>[lsV g])),(9,sl (cW ws) (ws.map Cb.cells)),(10,sl (cW gs) (gs.map fun g=>[pRow g])),(14,sl (cL (outs.map relC)) ((outs.map relC).map Cb.cells)),(17,.int .i64 k),(18,.int .i64 t)] ∧ H2 = []) g.length ?_ ?_
     ·refine ⟨_,_,?_,0,rfl,Nat.zero_le _,rfl,rfl⟩
      (simp +decide only [go_sem,gcD_eq,gcIds_eq]<;>rfl)<;>rfl
     ·rintro q F H2 ⟨t,rfl,ht,rfl,rfl⟩
      by_cases htl:t < g.length
      ·obtain ⟨x,hx⟩:∃ x,g[t]? = some x:=⟨_,List.getElem?_eq_getElem htl⟩
       obtain ⟨p,hp,hpc⟩:=hPI.cov k g o x hg ho (List.mem_of_getElem? hx)
       have hxl:x < ps.length:=(List.getElem?_eq_some_iff.1 hp).1
       have hpS:=hps p (List.mem_of_getElem? hp)
       have d1:(t:Int) < g.length:=by omega
       have htw:=wI1 (n:=t) (by omega)
       have hgx:(g.map intR)[t]? = some [.int .i64 x]:=by rw [List.getElem?_map,hx];rfl
       have hqp2:(ps.map Cb.cells)[x]? = some [sl p.ci (p.ins.map u8R),sl p.cs (p.sts.map u8R)]:=by rw [List.getElem?_map,hp];rfl
       have hcv:∀ H,callV L.env true (sem L.env Mf) (.func (.func 23) [] []) [.agg [sl p.ci (p.ins.map u8R),sl p.cs (p.sts.map u8R)],.agg [sl o.ci (o.ins.map u8R),sl o.cs (o.sts.map u8R)]] H = some (.bool true,H,[]):=fun H=>by
        have:=cov_call (d:=true) H p o (hpS.two hos)
        rw [hpc] at this
        exact this
       (repeat first|simp only [ww]|(apply xa;simp +decide only [go_sem,hkl,hgl,hqg,d1,List.length_map];rfl;kernel_rfl))
       (repeat first|simp only [ww]|((with_reducible first|apply xs2|apply xI);(·simp +decide only [go_sem,hkl,hgl,htl,hxl,hqg,hgx,hqp2,hqo,hcv,htw,List.length_map];rfl);with_reducible first|apply xT|apply xF|(·kernel_rfl)))
       refine lpJ_n (g.length - (t + 1)) (by omega) ⟨_,_,?_,t + 1,rfl,htl,rfl,rfl⟩
       (simp +decide only [go_sem,gcD_eq,gcIds_eq]<;>rfl)<;>rfl
      ·obtain rfl:t = g.length:=by omega
       have d1:¬ (g.length:Int) < g.length:=by omega
       (repeat first|simp only [ww]|(apply xa;simp +decide only [go_sem,hkl,hgl,hqg,d1,hkw,List.length_map];rfl;kernel_rfl))
       refine lpJ_n (outs.length - (k + 1)) (by omega) ⟨_,_,?_,k + 1,rfl,hkl,rfl,rfl⟩
       (simp +decide only [go_sem,gcD_eq,gcIds_eq]<;>rfl)<;>rfl
    ·obtain rfl:k = outs.length:=by omega
     have e1:¬ (outs.length:Int) < outs.length:=by omega
     (repeat first|simp only [ww]|(apply xa;simp +decide only [go_sem,e1,hlv,List.length_map];rfl;kernel_rfl))
     refine fqE_r (vs:=[.bool true]) (r:=(_,_)) (by simp +decide only [go_sem]) ?_ rfl
     simp +decide only [go_sem,finish]<;>rfl
end Go.KInst
