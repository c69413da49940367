/- Part of a proof. No condition. -/
import Derived.Test.YtbmkmaobejlkgaaDoorKPl
set_option linter.unusedSimpArgs false
set_option linter.unusedVariables false
namespace Go.KInst
open Go.Proofs Go.Ax Go.Pc
set_option maxRecDepth 100000
theorem lives_call {d:Bool} (H:Heap):callV L.env d (sem L.env Mf) (.func (.func 6) [] []) [] H = some (.bool true,H,[]):=
 callV_flat (by kernel_rfl) (by kernel_rfl) rfl rfl lives_sem rfl
theorem tbV_refs (tb:List (List Nat)):refs (tbV tb) = []:=by cases tb<;>rfl
theorem slF_rv (l:List Nat):RV l (slF none (l.map intR)):=by
 cases l with
 | nil=>exact .nil rfl
 | cons a r=>exact .imm none
theorem tbV_tb (tb:List (List Nat)):TBv tb (tbV tb):=by
 cases tb with
 | nil=>exact .nil rfl
 | cons a r=>
  have h:=TBv.imm (tb:=a :: r) ((a :: r).map fun f=>slF none (f.map intR)) none (by simp) (fun i f hf=>⟨slF none (f.map intR),by rw [List.getElem?_map,hf];rfl,slF_rv f⟩)
  rw [List.map_map] at h
  exact h
theorem asc_range {n:Nat} (p:Nat → Bool):∀ (k a:Nat),a + k ≤ n → ∀ z:Int,z < a → Asc n z ((List.range' a k).filter p)
 | 0,a,_,z,_=>trivial
 | k + 1,a,h,z,hz=>by
  rw [List.range'_succ,List.filter_cons]
  split
  ·exact ⟨hz,by omega,asc_range p k (a + 1) (by omega) _ (by omega)⟩
  ·exact asc_range p k (a + 1) (by omega) z (by omega)
theorem rowB_asc (x n:Nat):Asc n (-1) (rowB x n):=by
 unfold rowB
 rw [List.range_eq_range']
 exact asc_range _ n 0 (by omega) (-1) (by omega)
theorem tab_of {xs:List Nat} {n:Nat} (hl:xs.length ≤ 1000) (hn:n ≤ 8):Tab (tabB xs n) n (tbV (tabB xs n)):=by
 refine ⟨tbV_tb _,by simpa [tabB] using hl,by omega,?_⟩
 intro r hr
 obtain ⟨x,_,rfl⟩:=List.mem_map.1 hr
 exact ⟨by have:=rowB_len x n;omega,rowB_asc x n⟩
theorem table_call {d:Bool} (H:Heap) (xs:List Nat) (c:Option (Option Nat)) (hx:∀ x ∈ xs,x < 256) (hl:xs.length ≤ 1000) (m:Nat) (hm:m < 256) :
 callV L.env d (sem L.env Mf) (.func (.func 7) [] []) [sl c (xs.map u8R),.int .u8 m] H = some (.tuple [tbV (tabB xs (m % 9)),.int .i64 (m % 9:Nat)],H,[]):=
 callV_flat (by kernel_rfl) (by kernel_rfl) rfl (by simp only [List.nil_append,List.append_nil,refsL_cons,refs_sl];rfl) (table_ok xs c hx hl m hm) (by simp [refs,refsL,tbV_refs])
theorem reverse_call {d:Bool} (H:Heap) {tb:List (List Nat)} {n:Nat} {A:AV} (h:Tab tb n A):callV L.env d (sem L.env Mf) (.func (.func 8) [] []) [A,.int .i64 n] H = some (.tuple [lsV (later tb n []),.int .i64 0],H,[]):=
 callV_flat (by kernel_rfl) (by kernel_rfl) rfl (by simp [refsL,h.val.refs,refs]) (reverse_ok h) (by simp [refs,refsL,lsV_refs])
theorem greedy_call {tb:List (List Nat)} {n:Nat} {A:AV} (h:Tab tb n A):∃ l,GSel tb n l ∧ ∀ (d:Bool) (H:Heap),callV L.env d (sem L.env Mf) (.func (.func 9) [] []) [A,.int .i64 n] H = some (.tuple [lsV l,.int .i64 0],H,[]):=by
 obtain ⟨r,⟨l,h1,rfl⟩,h2⟩:=greedy_ok h
 exact ⟨l,h1,fun d H=>callV_flat (by kernel_rfl) (by kernel_rfl) rfl (by simp [refsL,h.val.refs,refs]) h2 (by simp [refs,refsL,lsV_refs])⟩
theorem in_callF {l:List Nat} {V:AV} (H:Heap) (hV:RV l V) (hl:l.length < 1000000) {d:Bool} (t:Nat):callV L.env d (sem L.env Mf) (.func (.func 15) [] []) [V,.int .i64 t] H = some (.bool (l.contains t),H,[]):=
 callV_flat (by kernel_rfl) (by kernel_rfl) rfl (by simp [refsL,hV.refs,refs]) (in_ok l V [] hV.ri hl t) rfl
/-- A list that the law makes: nil, or one block. -/
inductive LS (l:List Nat):AV → Heap → Prop
 | nil (h:l = []):LS l .nilslice []
 | blk (c:Option Nat) (h:l ≠ []):LS l (.slice 0 0 l.length c) [some (.row 1 (l.map intR))]
theorem LS.ri {l:List Nat} {V:AV} {H:Heap} (h:LS l V H):RI l V H:=by
 cases h with
 | nil h=>exact .nil h
 | blk c h=>
  have:=RI.blk (l:=l) c [] (by rw [List.append_nil];exact flatI l)
  rwa [List.append_nil] at this
theorem LS.frz {l:List Nat} {V:AV} {H:Heap} (h:LS l V H):∃ W,frzV 0 true (frzD (HeapF H) 0 12) V = some W ∧ RV l W:=by
 cases h with
 | nil h=>exact ⟨.nilslice,rfl,.nil h⟩
 | blk c h=>
  refine ⟨.islice (l.map intR) c,?_,.imm c⟩
  have hb:HeapF [some (.row 1 (l.map intR))] 0 = some (.row 1 (l.map intR)):=rfl
  simp +decide only [go_sem,List.length_map,frzI,takeI]<;>rfl
inductive LN (l:List Nat):AV → Heap → Prop
 | nil (h:l = []):LN l .nilslice []
 | blk (h:l ≠ []):LN l (.slice 0 0 l.length none) [some (.row 1 (l.map intR))]
theorem LN.ls {l:List Nat} {V:AV} {H:Heap} (h:LN l V H):LS l V H:=by
 cases h with
 | nil h=>exact .nil h
 | blk h=>exact .blk none h
theorem lenI (l:List Nat):((l.map intR).all fun r=>decide (r.length = 1)) = true:=by
 rw [List.all_eq_true];intro r hr;obtain ⟨x,_,rfl⟩:=List.mem_map.1 hr;rfl
theorem stoI (l:List Nat):((l.map intR).all fun r=>r.all AV.storable) = true:=by
 rw [List.all_eq_true];intro r hr;obtain ⟨x,_,rfl⟩:=List.mem_map.1 hr;rfl
theorem cons_len (t:Nat) (acc:List Nat):(t :: acc).length = 1 + acc.length:=by simp;omega
theorem selects_ok (xs:List Nat) (c:Option (Option Nat)) (hx:∀ x ∈ xs,x < 256) (m:Nat) (hm:m < 256):sem L.env Mf 4 [sl c (xs.map u8R),.int .u8 m] [] = some (.bool true,[]):=by
 have hlv:=fun H=>lives_call (d:=false) H
 suffices hs:∃ r:AV × Heap,(r = (.bool true,[])) ∧ sem L.env Mf 4 [sl c (xs.map u8R),.int .u8 m] [] = some r by
  obtain ⟨r,rfl,h3⟩:=hs
  exact h3
 by_cases hbig:30 < xs.length
 ·have c0:(30:Int) < xs.length:=by omega
  (refine svE Tryd.f4 ?_;simp only [Tryd.f4,gS])
  (repeat first|simp only [ww]|(apply xa;simp +decide only [go_sem,List.length_map,c0,hlv];rfl;kernel_rfl))
  refine fqE_r (vs:=[.bool true]) (r:=(_,_)) (by simp +decide only [go_sem]) ?_ rfl
  simp +decide only [go_sem,finish]<;>rfl
 have c0:¬ (30:Int) < xs.length:=by omega
 have hta:=table_call (d:=false) [] xs c hx (by omega) m hm
 have hn8:m % 9 ≤ 8:=by omega
 generalize m % 9 = n at hta hn8
 have hT:=tab_of (xs:=xs) (n:=n) (by omega) hn8
 generalize htb:tabB xs n = tb at hta hT
 have htl:tb.length ≤ 30:=by rw [← htb];simp [tabB];omega
 have hrev:=reverse_call (d:=false) [] hT
 obtain ⟨gl,hgl,hgr⟩:=greedy_call hT
 have hgr:=hgr false []
 generalize hA:tbV tb = A at hta hT hrev hgr
 have hAr:=hT.val.refs
 have hAn:∀ π,ren π A = A:=fun π=>ren_flat π A hAr
 have hAf:∀ b d,frzV 0 b d A = some A:=fun b d=>frzV_flat _ _ d A hAr
 have h1r:=lsV_refs (later tb n [])
 have h1n:∀ π,ren π (lsV (later tb n [])) = lsV (later tb n []):=fun π=>ren_flat π _ h1r
 have h1f:∀ b d,frzV 0 b d (lsV (later tb n [])) = some (lsV (later tb n [])):=fun b d=>frzV_flat _ _ d _ h1r
 have h2r:=lsV_refs gl
 have h2n:∀ π,ren π (lsV gl) = lsV gl:=fun π=>ren_flat π _ h2r
 have h2f:∀ b d,frzV 0 b d (lsV gl) = some (lsV gl):=fun b d=>frzV_flat _ _ d _ h2r
 have hsm:=hT.small
 have hw0:IntKind.i64.wrap ((n:Int) - 1) = (n:Int) - 1:=w64 (by omega) (by omega)
 (refine svE Tryd.f4 ?_;simp only [Tryd.f4,gS])
 (repeat first|simp only [ww]|(apply xa;simp +decide only [go_sem,List.length_map,c0,hta,hrev,hgr,hw0];rfl;kernel_rfl))
 refine xp_lpZ kp4_0 rfl (fun q F H1=>∃ (s:Nat) (x:Int) (acc:List Nat) (V:AV) (H:Heap),q = s ∧ s ≤ n ∧ x = (s:Int) - 1 ∧ F = [(5,A),(6,.int .i64 n),(7,lsV (later tb n [])),(9,lsV gl),(11,V),(12,.int .i64 x),(1000000,.junk)] ∧ H1 = H ∧ LS acc V H ∧ acc.length + s ≤ n ∧ later tb s acc = later tb n []) n ?_ ?_
 ·refine ⟨_,_,?_,n,_,[],.nilslice,[],rfl,Nat.le_refl _,rfl,rfl,rfl,.nil rfl,by simp,rfl⟩
  (simp +decide only [go_sem,gcD_eq,gcIds_eq,hAr,hAn,h1r,h1n,h2r,h2n]<;>rfl)<;>rfl
 ·rintro q F H1 ⟨s,x,acc,V,H,rfl,hsn,hx,rfl,rfl,hLS,hal,hlat⟩
  cases q with
  | zero=>
   have d1:¬ (0:Int) ≤ x:=by omega
   have hacc:acc = later tb n []:=hlat
   obtain ⟨W,hW1,hW2⟩:=hLS.frz
   (repeat first|simp only [ww]|(apply xa;simp +decide only [go_sem,d1];rfl;kernel_rfl))
   rw [fz_rw]
   simp +decide only [go_sem,hAf,h1f,h2f,hW1]
   rw [hacc] at hW2
   clear hW1 hLS hacc hlat hal d1
   have hL1l:(later tb n []).length ≤ 8:=by have:=later_len tb n [];simp at this;omega
   generalize later tb n [] = L1 at *
   have hWr:=hW2.refs
   have hWn:∀ π,ren π W = W:=fun π=>ren_flat π W hWr
   (repeat first|simp only [ww]|(apply xa;simp +decide only [go_sem];rfl;kernel_rfl))
   refine xp_lp kp4_4 (fun q F H1=>∃ (k:Nat) (acc:List Nat) (V:AV) (H:Heap),q = tb.length - k ∧ acc = gsel tb n k ∧ (∀ j,j < k → covL tb (gsel tb n j) = false) ∧ F = [(5,A),(6,.int .i64 n),(7,lsV L1),(9,lsV gl),(11,W),(15,V)] ∧ H1 = H ∧ LN acc V H) tb.length ?_ ?_
   ·refine ⟨_,_,?_,0,[],.nilslice,[],rfl,rfl,fun j hj=>by omega,rfl,rfl,.nil rfl⟩
    (simp +decide only [go_sem,gcD_eq,gcIds_eq,hAr,hAn,h1r,h1n,h2r,h2n,hWr,hWn]<;>rfl)<;>rfl
   ·rintro q F H1 ⟨k,acc,V,H,rfl,hacc,hk,rfl,rfl,hLN⟩
    have hall:=gsel_len tb n k
    rw [← hacc] at hall
    have hkt:=gsel_small hT.lt k hk
    rw [← hacc] at hkt
    have hRI:=hLN.ls.ri
    have hcv:=covers_call hT.val hsm hRI (by omega) (d:=false)
    by_cases hc:covL tb acc = true
    ·have hS:GSel tb n acc:=⟨k,hacc,hc,hk⟩
     have hsame:=hS.uniq hgl
     rw [hc] at hcv
     have hI1:∀ (H:Heap) (b:Nat) (c:Option Nat),HeapF H b = some (.row 1 (L1.map intR)) → callV L.env false (sem L.env Mf) (.func (.func 16) [] []) [lsV L1,.slice b 0 L1.length c] H = some (.int .i64 0,H,[b]):=fun H b c h=>ints_call (by omega) h
     have hI2:∀ (H:Heap) (b:Nat) (c:Option Nat),HeapF H b = some (.row 1 (acc.map intR)) → callV L.env false (sem L.env Mf) (.func (.func 16) [] []) [lsV acc,.slice b 0 acc.length c] H = some (.int .i64 0,H,[b]):=fun H b c h=>ints_call (by omega) h
     rw [← hsame]
     have hr1:L1.length ≤ 1000000000:=by omega
     have hr2:acc.length ≤ 1000000000:=by omega
     have ht1:=takeI L1
     have ht2:=takeI acc
     rcases Nat.eq_zero_or_pos L1.length with hz|hz
     ·obtain rfl:=List.eq_nil_of_length_eq_zero hz
      simp only [List.map_nil,List.length_nil] at hI1
      cases hW2 with
      | nil _=>
       cases hLN with
       | nil h0=>
        subst h0
        simp only [List.map_nil,List.length_nil] at hI2
        (repeat first|simp only [ww]|(apply xa;simp +decide only [go_sem,hcv,hI1,hI2,hlv,List.map_nil];rfl;kernel_rfl))
        refine fqE_r (vs:=[.bool true]) (r:=(_,_)) (by simp +decide only [go_sem]) ?_ rfl
        simp +decide only [go_sem,finish]<;>rfl
       | blk h0=>
        have hz2:¬ acc.length ≤ 0:=by have:=List.length_pos_iff.2 h0;omega
        (repeat first|simp only [ww]|(apply xa;simp +decide only [go_sem,hcv,hI1,hI2,hlv,hz2,hr2,ht2,List.length_map,List.map_nil];rfl;kernel_rfl))
        refine fqE_r (vs:=[.bool true]) (r:=(_,_)) (by simp +decide only [go_sem]) ?_ rfl
        simp +decide only [go_sem,finish]<;>rfl
      | imm _=>
       cases hLN with
       | nil h0=>
        subst h0
        simp only [List.map_nil,List.length_nil] at hI2
        (repeat first|simp only [ww]|(apply xa;simp +decide only [go_sem,hcv,hI1,hI2,hlv,List.map_nil];rfl;kernel_rfl))
        refine fqE_r (vs:=[.bool true]) (r:=(_,_)) (by simp +decide only [go_sem]) ?_ rfl
        simp +decide only [go_sem,finish]<;>rfl
       | blk h0=>
        have hz2:¬ acc.length ≤ 0:=by have:=List.length_pos_iff.2 h0;omega
        (repeat first|simp only [ww]|(apply xa;simp +decide only [go_sem,hcv,hI1,hI2,hlv,hz2,hr2,ht2,List.length_map,List.map_nil];rfl;kernel_rfl))
        refine fqE_r (vs:=[.bool true]) (r:=(_,_)) (by simp +decide only [go_sem]) ?_ rfl
        simp +decide only [go_sem,finish]<;>rfl
     ·have hz1:¬ L1.length ≤ 0:=by omega
      cases hW2 with
      | nil h0=>simp [h0] at hz
      | imm _=>
       cases hLN with
       | nil h0=>
        subst h0
        simp only [List.map_nil,List.length_nil] at hI2
        (repeat first|simp only [ww]|(apply xa;simp +decide only [go_sem,hcv,hI1,hI2,hlv,hz1,hr1,ht1,lenI,stoI,List.length_map,List.map_nil];rfl;kernel_rfl))
        refine fqE_r (vs:=[.bool true]) (r:=(_,_)) (by simp +decide only [go_sem]) ?_ rfl
        simp +decide only [go_sem,finish]<;>rfl
       | blk h0=>
        have hz2:¬ acc.length ≤ 0:=by have:=List.length_pos_iff.2 h0;omega
        (repeat first|simp only [ww]|(apply xa;simp +decide only [go_sem,hcv,hI1,hI2,hlv,hz1,hr1,ht1,lenI,stoI,hz2,hr2,ht2,List.length_map,List.map_nil];rfl;kernel_rfl))
        refine fqE_r (vs:=[.bool true]) (r:=(_,_)) (by simp +decide only [go_sem]) ?_ rfl
        simp +decide only [go_sem,finish]<;>rfl
    ·have hc:covL tb acc = false:=by simpa using hc
     rw [hc] at hcv
     obtain ⟨hb1,hb2⟩:=gbest_drop hT.lt hc
     have hk1:∀ j,j < k + 1 → covL tb (gsel tb n j) = false:=by
      intro j hj
      rcases Nat.lt_succ_iff_lt_or_eq.1 hj with h1|rfl
      ·exact hk j h1
      ·rw [← hacc];exact hc
     have hsm2:=gsel_small hT.lt (k + 1) hk1
     have hnx:gsel tb n (k + 1) = acc ++ [(gbest tb acc n).1]:=by rw [hacc];rfl
     (repeat first|simp only [ww]|(apply xa;simp +decide only [go_sem,hcv];rfl;kernel_rfl))
     refine xp_lp kp4_6 (fun q F H2=>∃ t,q = n - t ∧ t ≤ n ∧ F = [(5,A),(6,.int .i64 n),(7,lsV L1),(9,lsV gl),(11,W),(15,V),(16,.int .i64 (gbest tb acc t).1),(17,.int .i64 (gbest tb acc t).2),(18,.int .i64 t)] ∧ H2 = H1) n ?_ ?_
     ·refine ⟨_,_,?_,0,rfl,Nat.zero_le _,rfl,rfl⟩
      cases hLN<;>((simp +decide only [go_sem,gcD_eq,gcIds_eq,hAr,hAn,h1r,h1n,h2r,h2n,hWr,hWn,refsI,renI]<;>rfl)<;>rfl)
     ·rintro q F H2 ⟨t,rfl,ht,rfl,rfl⟩
      by_cases htl:t < n
      ·have d1:(t:Int) < n:=by omega
       have htw:=wI1 (n:=t) (by omega)
       have hgs:gbest tb acc (t + 1) = if (gbest tb acc t).2 < gcnt tb acc t then (t,gcnt tb acc t) else gbest tb acc t:=rfl
       (repeat first|simp only [ww]|(apply xa;simp +decide only [go_sem,d1];rfl;kernel_rfl))
       refine xp_lp kp4_8 (fun q F H3=>∃ i,q = tb.length - i ∧ i ≤ tb.length ∧ F = [(5,A),(6,.int .i64 n),(7,lsV L1),(9,lsV gl),(11,W),(15,V),(16,.int .i64 (gbest tb acc t).1),(17,.int .i64 (gbest tb acc t).2),(18,.int .i64 t),(19,.int .i64 (mcnt tb acc t i)),(20,.int .i64 i)] ∧ H3 = H2) tb.length ?_ ?_
       ·refine ⟨_,_,?_,0,rfl,Nat.zero_le _,rfl,rfl⟩
        cases hLN<;>((simp +decide only [go_sem,gcD_eq,gcIds_eq,hAr,hAn,h1r,h1n,h2r,h2n,hWr,hWn,refsI,renI]<;>rfl)<;>rfl)
       ·rintro q F H3 ⟨i,rfl,hi,rfl,rfl⟩
        have hlen:=tb_len hT.val (HeapF H3)
        by_cases hlt:i < tb.length
        ·obtain ⟨r,hrr⟩:∃ r,tb[i]? = some r:=⟨_,List.getElem?_eq_getElem hlt⟩
         obtain ⟨p,X,hp1,hp2,hX⟩:=tb_get hT.val (HeapF H3) hrr
         have hrl:r.length < 1000000:=hsm.2 r (List.mem_of_getElem? hrr)
         have e1:(i:Int) < tb.length:=by omega
         have hw:=wI1 (n:=i) (by omega)
         have hin:=in_callF H3 hX hrl (d:=false) t
         have hme:=meets_call hX hrl hRI (by omega) (d:=false)
         have hst:=mcnt_succ (acc:=acc) (t:=t) hrr
         have hml:=mcnt_le tb acc t i
         have hwm:=wI1 (n:=mcnt tb acc t i) (by omega)
         unfold hitR at hst
         by_cases hc1:r.contains t = true
         ·rw [hc1,Bool.true_and] at hst
          rw [hc1] at hin
          by_cases hc2:meetsL r acc = true
          ·rw [hc2] at hst hme
           (repeat first|simp only [ww]|(apply xa;simp +decide only [go_sem,hlen,e1,hw,hp1,hp2,hin,hme];rfl;kernel_rfl))
           refine lpJ_n (tb.length - (i + 1)) (by omega) ⟨_,_,?_,i + 1,rfl,hlt,rfl,rfl⟩
           rw [hst]
           cases hLN<;>((simp +decide only [go_sem,gcD_eq,gcIds_eq,hAr,hAn,h1r,h1n,h2r,h2n,hWr,hWn,refsI,renI]<;>rfl)<;>rfl)
          ·have hc2:meetsL r acc = false:=by simpa using hc2
           rw [hc2] at hst hme
           (repeat first|simp only [ww]|(apply xa;simp +decide only [go_sem,hlen,e1,hw,hp1,hp2,hin,hme,hwm];rfl;kernel_rfl))
           refine lpJ_n (tb.length - (i + 1)) (by omega) ⟨_,_,?_,i + 1,rfl,hlt,rfl,rfl⟩
           rw [hst]
           cases hLN<;>((simp +decide only [go_sem,gcD_eq,gcIds_eq,hAr,hAn,h1r,h1n,h2r,h2n,hWr,hWn,refsI,renI]<;>rfl)<;>rfl)
         ·have hc1:r.contains t = false:=by simpa using hc1
          rw [hc1,Bool.false_and] at hst
          rw [hc1] at hin
          (repeat first|simp only [ww]|(apply xa;simp +decide only [go_sem,hlen,e1,hw,hp1,hp2,hin];rfl;kernel_rfl))
          refine lpJ_n (tb.length - (i + 1)) (by omega) ⟨_,_,?_,i + 1,rfl,hlt,rfl,rfl⟩
          rw [hst]
          cases hLN<;>((simp +decide only [go_sem,gcD_eq,gcIds_eq,hAr,hAn,h1r,h1n,h2r,h2n,hWr,hWn,refsI,renI]<;>rfl)<;>rfl)
        ·obtain rfl:i = tb.length:=by omega
         have e1:¬ (tb.length:Int) < tb.length:=by omega
         rw [mcnt_end]
         by_cases hgt:(gbest tb acc t).2 < gcnt tb acc t
         ·rw [if_pos hgt] at hgs
          have c2:((gbest tb acc t).2:Int) < (gcnt tb acc t:Int):=by omega
          (repeat first|simp only [ww]|(apply xa;simp +decide only [go_sem,hlen,e1,c2,htw];rfl;kernel_rfl))
          refine lpJ_n (n - (t + 1)) (by omega) ⟨_,_,?_,t + 1,rfl,htl,rfl,rfl⟩
          rw [hgs]
          cases hLN<;>((simp +decide only [go_sem,gcD_eq,gcIds_eq,hAr,hAn,h1r,h1n,h2r,h2n,hWr,hWn,refsI,renI]<;>rfl)<;>rfl)
         ·rw [if_neg hgt] at hgs
          have c2:¬ ((gbest tb acc t).2:Int) < (gcnt tb acc t:Int):=by omega
          (repeat first|simp only [ww]|(apply xa;simp +decide only [go_sem,hlen,e1,c2,htw];rfl;kernel_rfl))
          refine lpJ_n (n - (t + 1)) (by omega) ⟨_,_,?_,t + 1,rfl,htl,rfl,rfl⟩
          rw [hgs]
          cases hLN<;>((simp +decide only [go_sem,gcD_eq,gcIds_eq,hAr,hAn,h1r,h1n,h2r,h2n,hWr,hWn,refsI,renI]<;>rfl)<;>rfl)
      ·obtain rfl:t = n:=by omega
       have d1:¬ (t:Int) < t:=by omega
       have hrm:acc.length + 1 ≤ 1000000000:=by omega
       cases hLN with
       | nil h0=>
        subst h0
        (repeat first|simp only [ww]|(apply xa;simp +decide only [go_sem,d1];rfl;kernel_rfl))
        refine lpJ_n (tb.length - (k + 1)) (by omega) ⟨_,_,?_,k + 1,[] ++ [(gbest tb [] t).1],.slice 0 0 1 none,_,rfl,hnx.symm,hk1,rfl,rfl,.blk (by simp)⟩
        (simp +decide only [go_sem,gcD_eq,gcIds_eq,hAr,hAn,h1r,h1n,h2r,h2n,hWr,hWn,List.nil_append,List.map_cons,List.map_nil]<;>rfl)<;>rfl
       | blk h0=>
        (repeat first|simp only [ww]|(apply xa;simp +decide only [go_sem,d1,hrm,List.length_map];rfl;kernel_rfl))
        refine lpJ_n (tb.length - (k + 1)) (by omega) ⟨_,_,?_,k + 1,acc ++ [(gbest tb acc t).1],.slice 0 0 (acc ++ [(gbest tb acc t).1]).length none,_,rfl,hnx.symm,hk1,rfl,rfl,.blk (by simp)⟩
        (simp +decide only [go_sem,gcD_eq,gcIds_eq,hAr,hAn,h1r,h1n,h2r,h2n,hWr,hWn,List.map_append,List.map_cons,List.map_nil,List.length_append,List.length_cons,List.length_nil,refsI,renI]<;>rfl)<;>rfl
  | succ t=>
   obtain rfl:x = (t:Int):=by omega
   have d1:(0:Int) ≤ (t:Int):=by omega
   have htw:IntKind.i64.wrap ((t:Int) - 1) = (t:Int) - 1:=w64 (by omega) (by omega)
   (repeat first|simp only [ww]|(apply xa;simp +decide only [go_sem,d1];rfl;kernel_rfl))
   refine xp_lp kp4_2 (fun q F H2=>∃ i,q = tb.length - i ∧ i ≤ tb.length ∧ F = [(5,A),(6,.int .i64 n),(7,lsV (later tb n [])),(9,lsV gl),(11,V),(12,.int .i64 t),(13,.bool (anyT tb acc t i)),(14,.int .i64 i)] ∧ H2 = H1) tb.length ?_ ?_
   ·refine ⟨_,_,?_,0,rfl,Nat.zero_le _,rfl,rfl⟩
    cases hLS<;>((simp +decide only [go_sem,gcD_eq,gcIds_eq,hAr,hAn,h1r,h1n,h2r,h2n,refsI,renI]<;>rfl)<;>rfl)
   ·rintro q F H2 ⟨i,rfl,hi,rfl,rfl⟩
    have hlen:=tb_len hT.val (HeapF H2)
    by_cases hlt:i < tb.length
    ·obtain ⟨r,hrr⟩:∃ r,tb[i]? = some r:=⟨_,List.getElem?_eq_getElem hlt⟩
     obtain ⟨p,W,hp1,hp2,hW⟩:=tb_get hT.val (HeapF H2) hrr
     have hrl:r.length < 1000000:=hsm.2 r (List.mem_of_getElem? hrr)
     have e1:(i:Int) < tb.length:=by omega
     have hw:=wI1 (n:=i) (by omega)
     have hin:=in_callF H2 hW hrl (d:=false) t
     have hme:=meets_call hW hrl hLS.ri (by omega) (d:=false)
     have hst:=anyT_succ (acc:=acc) (t:=t) hrr
     have hnext:∀ F':Frm,F' = [(5,A),(6,.int .i64 n),(7,lsV (later tb n [])),(9,lsV gl),(11,V),(12,.int .i64 t),(13,.bool (anyT tb acc t (i + 1))),(14,.int .i64 (i + 1))] → True:=fun _ _=>trivial
     by_cases ha:anyT tb acc t i = true
     ·rw [ha,Bool.true_or] at hst
      rw [ha]
      (repeat first|simp only [ww]|(apply xa;simp +decide only [go_sem,hlen,e1,hw];rfl;kernel_rfl))
      refine lpJ_n (tb.length - (i + 1)) (by omega) ⟨_,_,?_,i + 1,rfl,hlt,rfl,rfl⟩
      rw [hst]
      cases hLS<;>((simp +decide only [go_sem,gcD_eq,gcIds_eq,hAr,hAn,h1r,h1n,h2r,h2n,refsI,renI]<;>rfl)<;>rfl)
     ·have ha:anyT tb acc t i = false:=by simpa using ha
      rw [ha,Bool.false_or] at hst
      rw [ha]
      unfold hitR at hst
      by_cases hc1:r.contains t = true
      ·rw [hc1,Bool.true_and] at hst
       rw [hc1] at hin
       by_cases hc2:meetsL r acc = true
       ·rw [hc2] at hst hme
        (repeat first|simp only [ww]|(apply xa;simp +decide only [go_sem,hlen,e1,hw,hp1,hp2,hin,hme];rfl;kernel_rfl))
        refine lpJ_n (tb.length - (i + 1)) (by omega) ⟨_,_,?_,i + 1,rfl,hlt,rfl,rfl⟩
        rw [hst]
        cases hLS<;>((simp +decide only [go_sem,gcD_eq,gcIds_eq,hAr,hAn,h1r,h1n,h2r,h2n,refsI,renI]<;>rfl)<;>rfl)
       ·have hc2:meetsL r acc = false:=by simpa using hc2
        rw [hc2] at hst hme
        (repeat first|simp only [ww]|(apply xa;simp +decide only [go_sem,hlen,e1,hw,hp1,hp2,hin,hme];rfl;kernel_rfl))
        refine lpJ_n (tb.length - (i + 1)) (by omega) ⟨_,_,?_,i + 1,rfl,hlt,rfl,rfl⟩
        rw [hst]
        cases hLS<;>((simp +decide only [go_sem,gcD_eq,gcIds_eq,hAr,hAn,h1r,h1n,h2r,h2n,refsI,renI]<;>rfl)<;>rfl)
      ·have hc1:r.contains t = false:=by simpa using hc1
       rw [hc1,Bool.false_and] at hst
       rw [hc1] at hin
       (repeat first|simp only [ww]|(apply xa;simp +decide only [go_sem,hlen,e1,hw,hp1,hp2,hin];rfl;kernel_rfl))
       refine lpJ_n (tb.length - (i + 1)) (by omega) ⟨_,_,?_,i + 1,rfl,hlt,rfl,rfl⟩
       rw [hst]
       cases hLS<;>((simp +decide only [go_sem,gcD_eq,gcIds_eq,hAr,hAn,h1r,h1n,h2r,h2n,refsI,renI]<;>rfl)<;>rfl)
    ·obtain rfl:i = tb.length:=by omega
     have e1:¬ (tb.length:Int) < tb.length:=by omega
     rw [anyT_end]
     have hlat2:later tb t (if 0 < gcnt tb acc t then t :: acc else acc) = later tb n []:=hlat
     by_cases hg:0 < gcnt tb acc t
     ·rw [if_pos hg] at hlat2
      rw [decide_eq_true hg]
      have hLS2:=hLS
      cases hLS with
      | nil h0=>
       subst h0
       (repeat first|simp only [ww]|(apply xa;simp +decide only [go_sem,hlen,e1,htw];rfl;kernel_rfl))
       refine lpJ_n t (by omega) ⟨_,_,?_,t,_,[t],.slice 0 0 1 (some 1),_,rfl,by omega,rfl,rfl,rfl,.blk (some 1) (by simp),by simp only [List.length_cons,List.length_nil] at hal ⊢;omega,hlat2⟩
       (simp +decide only [go_sem,gcD_eq,gcIds_eq,hAr,hAn,h1r,h1n,h2r,h2n,List.map_cons,List.map_nil]<;>rfl)<;>rfl
      | blk cc h0=>
       have hcl:=cons_len t acc
       have hrm:1 + acc.length ≤ 1000000000:=by omega
       have hlt2:¬ 1 + acc.length ≤ 1:=by have:=List.length_pos_iff.2 h0;omega
       have hal0:acc.length ≤ (acc.map intR).length:=by simp
       have htk:=takeI acc
       (repeat first|simp only [ww]|(apply xa;simp +decide only [go_sem,hlen,e1,htw,hrm,hlt2,List.length_map,htk];rfl;kernel_rfl))
       refine lpJ_n t (by omega) ⟨_,_,?_,t,_,t :: acc,.slice 0 0 (t :: acc).length none,_,rfl,by omega,rfl,rfl,rfl,.blk none (by simp),by rw [hcl];omega,hlat2⟩
       rw [hcl]
       (simp +decide only [go_sem,gcD_eq,gcIds_eq,hAr,hAn,h1r,h1n,h2r,h2n,List.map_cons,refsI,renI]<;>rfl)<;>rfl
     ·rw [if_neg hg] at hlat2
      rw [decide_eq_false hg]
      (repeat first|simp only [ww]|(apply xa;simp +decide only [go_sem,hlen,e1,htw];rfl;kernel_rfl))
      refine lpJ_n t (by omega) ⟨_,_,?_,t,_,acc,V,_,rfl,by omega,rfl,rfl,rfl,hLS,by omega,hlat2⟩
      cases hLS<;>((simp +decide only [go_sem,gcD_eq,gcIds_eq,hAr,hAn,h1r,h1n,h2r,h2n,refsI,renI]<;>rfl)<;>rfl)
end Go.KInst
