/- Part of a proof. No condition. -/
import Derived.Test.YtbmkmaobejlkgaaDoorKPm
set_option linter.unusedSimpArgs false
set_option linter.unusedVariables false
namespace Go.KInst
open Go.Proofs Go.Ax Go.Pc
set_option maxRecDepth 100000
theorem least_call {d:Bool} (H:Heap) {tb:List (List Nat)} {n:Nat} {A:AV} (h:Tab tb n A) (hn:n ≤ 8):callV L.env d (sem L.env Mf) (.func (.func 10) [] []) [A,.int .i64 n] H = some (.tuple [lsV (bitsN (lbest tb n (2 ^ n)) n),.int .i64 0],H,[]):=
 callV_flat (by kernel_rfl) (by kernel_rfl) rfl (by simp [refsL,h.val.refs,refs]) (least_ok h hn) (by simp [refs,refsL,lsV_refs])
theorem essential_call {d:Bool} (H:Heap) {tb:List (List Nat)} {n:Nat} {A:AV} (h:Tab tb n A) (h30:tb.length ≤ 100):callV L.env d (sem L.env Mf) (.func (.func 11) [] []) [A,.int .i64 n] H = some (.tuple [lsV (aloneL tb n),.int .i64 0],H,[]):=
 callV_flat (by kernel_rfl) (by kernel_rfl) rfl (by simp [refsL,h.val.refs,refs]) (essential_ok h h30) (by simp [refs,refsL,lsV_refs])
theorem covers_callI {d:Bool} {tb:List (List Nat)} {A:AV} (hA:TBv tb A) (hs:Small tb) (H:Heap) {l:List Nat} {V:AV} (hV:RV l V) (hl:l.length < 1000000):callV L.env d (sem L.env Mf) (.func (.func 12) [] []) [A,V] H = some (.bool (covL tb l),H,[]):=
 callV_flat (by kernel_rfl) (by kernel_rfl) rfl (by simp [refsL,hV.refs,hA.refs]) (covers_ok tb A hA hs l V [] hV.ri hl) rfl
/-- The tests that alone detect a fault, up to a test and a row. -/
def alN (tb:List (List Nat)) (t i:Nat):List Nat:=aloneL tb t ++ if (tb.take i).contains [t] then [t] else []
theorem alN_zero (tb:List (List Nat)) (t:Nat):alN tb t 0 = aloneL tb t:=by simp [alN]
theorem alN_end (tb:List (List Nat)) (t:Nat):alN tb t tb.length = aloneL tb (t + 1):=by
 unfold alN aloneL
 rw [List.take_length,List.range_succ,List.filter_append]
 congr 1
 by_cases h:tb.contains [t] = true
 ·rw [if_pos h,List.filter_cons,h,List.filter_nil];rfl
 ·have h':tb.contains [t] = false:=by simpa using h
  rw [if_neg h,List.filter_cons,h',List.filter_nil];rfl
theorem aloneL_lt {tb:List (List Nat)} {n t:Nat} (h:t ∈ aloneL tb n):t < n:=List.mem_range.1 (List.mem_filter.1 h).1
theorem aloneL_len (tb:List (List Nat)) (n:Nat):(aloneL tb n).length ≤ n:=Nat.le_trans (List.length_filter_le _ _) (by simp)
theorem alN_len (tb:List (List Nat)) (t i:Nat):(alN tb t i).length ≤ t + 1:=by
 unfold alN
 have:=aloneL_len tb t
 split<;>simp<;>omega
theorem alN_has (tb:List (List Nat)) (t i:Nat):(alN tb t i).contains t = (tb.take i).contains [t]:=by
 rw [Bool.eq_iff_iff,List.contains_iff_mem]
 unfold alN
 rw [List.mem_append]
 constructor
 ·rintro (h|h)
  ·have:=aloneL_lt h;omega
  ·by_cases hc:(tb.take i).contains [t] = true
   ·exact hc
   ·rw [if_neg hc] at h;simp at h
 ·intro h
  rw [if_pos h];simp
theorem alN_succ {tb:List (List Nat)} {t i:Nat} {r:List Nat} (h:tb[i]? = some r):alN tb t (i + 1) = if r = [t] ∧ (alN tb t i).contains t = false then alN tb t i ++ [t] else alN tb t i:=by
 rw [alN_has]
 unfold alN
 have ht:(tb.take (i + 1)).contains [t] = ((tb.take i).contains [t] || decide (r = [t])):=by
  rw [List.take_add_one,h,Bool.eq_iff_iff,Bool.or_eq_true,List.contains_iff_mem,List.contains_iff_mem,decide_eq_true_eq,List.mem_append]
  simp [eq_comm]
 rw [ht]
 by_cases h1:(tb.take i).contains [t] = true
 ·rw [h1];simp
 ·have h1:(tb.take i).contains [t] = false:=by simpa using h1
  rw [h1]
  by_cases h2:r = [t]
  ·simp [h2]
  ·simp [h2]
set_option maxHeartbeats 200000000 in
theorem covers_law (xs:List Nat) (c:Option (Option Nat)) (hx:∀ x ∈ xs,x < 256) (m:Nat) (hm:m < 256):sem L.env Mf 3 [sl c (xs.map u8R),.int .u8 m] [] = some (.bool true,[]):=by
 have hlv:=fun H=>lives_call (d:=false) H
 suffices hs:∃ r:AV × Heap,(r = (.bool true,[])) ∧ sem L.env Mf 3 [sl c (xs.map u8R),.int .u8 m] [] = some r by
  obtain ⟨r,rfl,h3⟩:=hs
  exact h3
 by_cases hbig:30 < xs.length
 ·have c0:(30:Int) < xs.length:=by omega
  (refine svE Tryd.f3 ?_;simp only [Tryd.f3,gS])
  (repeat first|simp only [ww]|(apply xa;simp +decide only [go_sem,List.length_map,c0,hlv];rfl;kernel_rfl))
  refine fqE_r (vs:=[.bool true]) (r:=(_,_)) (by simp +decide only [go_sem]) ?_ rfl
  simp +decide only [go_sem,finish]<;>rfl
 have c0:¬ (30:Int) < xs.length:=by omega
 have hta:=table_call (d:=false) [] xs c hx (by omega) m hm
 have hn8:m % 9 ≤ 8:=by omega
 generalize m % 9 = n at hta hn8
 have hT:=tab_of (xs:=xs) (n:=n) (by omega) hn8
 generalize htb:tabB xs n = tb at hta hT
 have htl:tb.length ≤ 30:=by rw [← htb];simp [tabB];omega
 have hrev:=reverse_call (d:=false) [] hT
 obtain ⟨gl,hgl,hgr⟩:=greedy_call hT
 have hgr:=hgr false []
 have hle:=least_call (d:=false) [] hT hn8
 have hes:=essential_call (d:=false) [] hT (by omega)
 generalize hA:tbV tb = A at hta hT hrev hgr hle hes
 have hAr:=hT.val.refs
 have hAn:∀ π,ren π A = A:=fun π=>ren_flat π A hAr
 have hAf:∀ b d,frzV 0 b d A = some A:=fun b d=>frzV_flat _ _ d A hAr
 have hsm:=hT.small
 have hp:=pow8 hn8
 obtain ⟨kg,hge,hgc,hgk⟩:=hgl
 have hglt:=gsel_lt hT.lt kg hgk
 have hgln:=gsel_len tb n kg
 have hgsm:=gsel_small hT.lt kg hgk
 rw [← hge] at hglt hgln hgsm
 have hLa:=later_covers hT.lt
 have hLlt:=later_lt tb n n [] (Nat.le_refl _) (by simp)
 have hLln:=later_len tb n []
 have hBc:=lbest_cov hT.lt (2 ^ n)
 have hBa:=least_len hT.lt hn8 hLlt hLa
 have hBg:=least_len hT.lt hn8 hglt hgc
 have hBln:=bitsN_len (lbest tb n (2 ^ n)) n
 have halc:=fun t (h:t ∈ aloneL tb n)=>alone_in h hBc
 have hala:=fun t (h:t ∈ aloneL tb n)=>alone_in h hLa
 have halg:=fun t (h:t ∈ aloneL tb n)=>alone_in h hgc
 simp only [List.length_nil,Nat.zero_add] at hLln
 have hcA:=covers_callI (d:=false) hT.val hsm [] (lsV_rv (later tb n [])) (by omega)
 have hcG:=covers_callI (d:=false) hT.val hsm [] (lsV_rv gl) (by omega)
 have hcB:=covers_callI (d:=false) hT.val hsm [] (lsV_rv (bitsN (lbest tb n (2 ^ n)) n)) (by omega)
 rw [hLa] at hcA
 rw [hgc] at hcG
 rw [hBc] at hcB
 have hfin:=Nat.le_refl (2 ^ n)
 generalize hLL:later tb n [] = La at *
 generalize hBB:bitsN (lbest tb n (2 ^ n)) n = Lb at *
 have h1r:=lsV_refs La
 have h1n:∀ π,ren π (lsV La) = lsV La:=fun π=>ren_flat π _ h1r
 have h1f:∀ b d,frzV 0 b d (lsV La) = some (lsV La):=fun b d=>frzV_flat _ _ d _ h1r
 have h2r:=lsV_refs gl
 have h2n:∀ π,ren π (lsV gl) = lsV gl:=fun π=>ren_flat π _ h2r
 have h2f:∀ b d,frzV 0 b d (lsV gl) = some (lsV gl):=fun b d=>frzV_flat _ _ d _ h2r
 have h3r:=lsV_refs Lb
 have h3n:∀ π,ren π (lsV Lb) = lsV Lb:=fun π=>ren_flat π _ h3r
 have h3f:∀ b d,frzV 0 b d (lsV Lb) = some (lsV Lb):=fun b d=>frzV_flat _ _ d _ h3r
 have h4r:=lsV_refs (aloneL tb n)
 have h4n:∀ π,ren π (lsV (aloneL tb n)) = lsV (aloneL tb n):=fun π=>ren_flat π _ h4r
 have h4f:∀ b d,frzV 0 b d (lsV (aloneL tb n)) = some (lsV (aloneL tb n)):=fun b d=>frzV_flat _ _ d _ h4r
 have hl1:=rv_len (lsV_rv La)
 have hl2:=rv_len (lsV_rv gl)
 have hl3:=rv_len (lsV_rv Lb)
 have d1:¬ (La.length:Int) < Lb.length:=by omega
 have d2:¬ (gl.length:Int) < Lb.length:=by omega
 (refine svE Tryd.f3 ?_;simp only [Tryd.f3,gS])
 (repeat first|simp only [ww]|(apply xa;simp +decide only [go_sem,List.length_map,c0,hta,hrev,hgr,hle,hes,hcA,hcG,hcB,hl1,hl2,hl3,d1,d2];rfl;kernel_rfl))
 refine xp_lp kp3_0 (fun q F H1=>∃ (k:Nat) (B:AV),q = 2 ^ n - k ∧ k ≤ 2 ^ n ∧ F = [(5,A),(6,.int .i64 n),(7,lsV La),(9,lsV gl),(11,lsV Lb),(13,lsV (aloneL tb n)),(15,B),(16,.bool (foundB tb n k)),(17,.int .i64 k)] ∧ H1 = [] ∧
  B = if foundB tb n k then slI (bitsN (lbest tb n k) n) else .nilslice) (2 ^ n) ?_ ?_
 ·refine ⟨_,_,?_,0,.nilslice,rfl,Nat.zero_le _,rfl,rfl,rfl⟩
  (simp +decide only [go_sem,gcD_eq,gcIds_eq,hAr,hAn,h1r,h1n,h2r,h2n,h3r,h3n,h4r,h4n]<;>rfl)<;>rfl
 ·rintro q F H1 ⟨k,B,rfl,hk,rfl,rfl,hB⟩
  have hsh:ishl .i64 1 (n:Int) = ((2 ^ n:Nat):Int):=by
   unfold ishl
   have:min (n:Int).toNat IntKind.i64.bits = n:=by simp [IntKind.bits];omega
   rw [this,Int.one_mul,show (2:Int) ^ n = ((2 ^ n:Nat):Int) by simp,w64 (by omega) (by omega)]
  have hn0:((n:Int) < 0) = False:=eq_false (by omega)
  by_cases hlt:k < 2 ^ n
  ·have c1:((k:Int) < ((2 ^ n:Nat):Int)) = True:=eq_true (by omega)
   have hw:=wI1 (n:=k) (by omega)
   have hch:=chosen_call (d:=false) [] k n hn8
   have hkr:=slI_refs (bitsN k n)
   have hkn:∀ π,ren π (slI (bitsN k n)) = slI (bitsN k n):=fun π=>ren_flat π _ hkr
   have hkl:=bitsN_len k n
   have hcv:=covers_callI (d:=false) hT.val hsm [] (slI_rv (bitsN k n)) (by omega)
   have hkL:=rv_len (slI_rv (bitsN k n))
   have hfs:=foundB_succ tb n k
   have hstep:=law_step hT.lt hn8 hlt
   by_cases hcov:covL tb (bitsN k n) = true
   ·rw [hcov] at hcv hfs hstep
    rw [Bool.or_true] at hfs
    rw [Bool.true_and] at hstep
    by_cases hf:foundB tb n k = true
    ·rw [hf] at hB hstep
     rw [if_pos rfl] at hB
     subst hB
     rw [hf]
     have hstay:=law_stay hn8 hlt hf
     rw [hcov,hf] at hstay
     rw [Bool.true_and] at hstay
     rw [Bool.not_true,Bool.false_or] at hstep hstay
     have hbr:=slI_refs (bitsN (lbest tb n k) n)
     have hbn:∀ π,ren π (slI (bitsN (lbest tb n k) n)) = slI (bitsN (lbest tb n k) n):=fun π=>ren_flat π _ hbr
     have hbl:=bitsN_len (lbest tb n k) n
     have hbL:=rv_len (slI_rv (bitsN (lbest tb n k) n))
     have hfi:=first_call (d:=false) [] (bitsN k n) (bitsN (lbest tb n k) n) (by omega) (by omega)
     by_cases hlt2:(bitsN k n).length < (bitsN (lbest tb n k) n).length
     ·have e1:(((bitsN k n).length:Int) < (bitsN (lbest tb n k) n).length) = True:=eq_true (by omega)
      rw [decide_eq_true hlt2] at hstep
      have hst:=hstep rfl
      (repeat first|simp only [ww]|(apply xa;simp +decide only [go_sem,hn0,hsh,c1,hch,hcv,hkL,hbL,e1,hw];rfl;kernel_rfl))
      refine lpJ_n (2 ^ n - (k + 1)) (by omega) ⟨_,_,?_,k + 1,slI (bitsN k n),rfl,hlt,rfl,rfl,by rw [hfs,if_pos rfl,hst]⟩
      rw [hfs]
      (simp +decide only [go_sem,gcD_eq,gcIds_eq,hAr,hAn,h1r,h1n,h2r,h2n,h3r,h3n,h4r,h4n,hkr,hkn]<;>rfl)<;>rfl
     ·have e1:(((bitsN k n).length:Int) < (bitsN (lbest tb n k) n).length) = False:=eq_false (by omega)
      rw [decide_eq_false hlt2,Bool.false_or] at hstep hstay
      by_cases heq:(bitsN k n).length = (bitsN (lbest tb n k) n).length
      ·have e2:(((bitsN k n).length:Int) = (bitsN (lbest tb n k) n).length) = True:=eq_true (by omega)
       rw [decide_eq_true heq,Bool.true_and] at hstep hstay
       by_cases hfl:firstL (bitsN k n) (bitsN (lbest tb n k) n) = true
       ·have hst:=hstep hfl
        rw [hfl] at hfi
        (repeat first|simp only [ww]|(apply xa;simp +decide only [go_sem,hn0,hsh,c1,hch,hcv,hkL,hbL,e1,e2,hfi,hw];rfl;kernel_rfl))
        refine lpJ_n (2 ^ n - (k + 1)) (by omega) ⟨_,_,?_,k + 1,slI (bitsN k n),rfl,hlt,rfl,rfl,by rw [hfs,if_pos rfl,hst]⟩
        rw [hfs]
        (simp +decide only [go_sem,gcD_eq,gcIds_eq,hAr,hAn,h1r,h1n,h2r,h2n,h3r,h3n,h4r,h4n,hkr,hkn]<;>rfl)<;>rfl
       ·have hfl:firstL (bitsN k n) (bitsN (lbest tb n k) n) = false:=by simpa using hfl
        have hst:=hstay hfl
        rw [hfl] at hfi
        (repeat first|simp only [ww]|(apply xa;simp +decide only [go_sem,hn0,hsh,c1,hch,hcv,hkL,hbL,e1,e2,hfi,hw];rfl;kernel_rfl))
        refine lpJ_n (2 ^ n - (k + 1)) (by omega) ⟨_,_,?_,k + 1,slI (bitsN (lbest tb n k) n),rfl,hlt,rfl,rfl,by rw [hfs,if_pos rfl,hst]⟩
        rw [hfs]
        (simp +decide only [go_sem,gcD_eq,gcIds_eq,hAr,hAn,h1r,h1n,h2r,h2n,h3r,h3n,h4r,h4n,hbr,hbn]<;>rfl)<;>rfl
      ·have e2:(((bitsN k n).length:Int) = (bitsN (lbest tb n k) n).length) = False:=eq_false (by omega)
       rw [decide_eq_false heq,Bool.false_and] at hstay
       have hst:=hstay rfl
       (repeat first|simp only [ww]|(apply xa;simp +decide only [go_sem,hn0,hsh,c1,hch,hcv,hkL,hbL,e1,e2,hw];rfl;kernel_rfl))
       refine lpJ_n (2 ^ n - (k + 1)) (by omega) ⟨_,_,?_,k + 1,slI (bitsN (lbest tb n k) n),rfl,hlt,rfl,rfl,by rw [hfs,if_pos rfl,hst]⟩
       rw [hfs]
       (simp +decide only [go_sem,gcD_eq,gcIds_eq,hAr,hAn,h1r,h1n,h2r,h2n,h3r,h3n,h4r,h4n,hbr,hbn]<;>rfl)<;>rfl
    ·have hf:foundB tb n k = false:=by simpa using hf
     rw [hf] at hB hstep
     rw [if_neg (by decide)] at hB
     subst hB
     rw [hf]
     have hst:=hstep rfl
     (repeat first|simp only [ww]|(apply xa;simp +decide only [go_sem,hn0,hsh,c1,hch,hcv,hw];rfl;kernel_rfl))
     refine lpJ_n (2 ^ n - (k + 1)) (by omega) ⟨_,_,?_,k + 1,slI (bitsN k n),rfl,hlt,rfl,rfl,by rw [hfs,if_pos rfl,hst]⟩
     rw [hfs]
     (simp +decide only [go_sem,gcD_eq,gcIds_eq,hAr,hAn,h1r,h1n,h2r,h2n,h3r,h3n,h4r,h4n,hkr,hkn]<;>rfl)<;>rfl
   ·have hcov:covL tb (bitsN k n) = false:=by simpa using hcov
    rw [hcov] at hcv hfs
    rw [Bool.or_false] at hfs
    have hst:lbest tb n (k + 1) = lbest tb n k:=by simp only [lbest,hcov,Bool.false_and,Bool.false_eq_true,if_false]
    have hbr:refs B = []:=by rw [hB];split;exact slI_refs _;rfl
    have hbn:∀ π,ren π B = B:=fun π=>ren_flat π _ hbr
    (repeat first|simp only [ww]|(apply xa;simp +decide only [go_sem,hn0,hsh,c1,hch,hcv,hw];rfl;kernel_rfl))
    refine lpJ_n (2 ^ n - (k + 1)) (by omega) ⟨_,_,?_,k + 1,B,rfl,hlt,rfl,rfl,by rw [hfs,hst];exact hB⟩
    rw [hfs]
    (simp +decide only [go_sem,gcD_eq,gcIds_eq,hAr,hAn,h1r,h1n,h2r,h2n,h3r,h3n,h4r,h4n,hbr,hbn]<;>rfl)<;>rfl
  ·obtain rfl:k = 2 ^ n:=by omega
   have c1:(((2 ^ n:Nat):Int) < ((2 ^ n:Nat):Int)) = False:=eq_false (by omega)
   rw [found_end hT.lt,if_pos rfl,hBB] at hB
   subst hB
   have hbr:=slI_refs Lb
   have hbn:∀ π,ren π (slI Lb) = slI Lb:=fun π=>ren_flat π _ hbr
   have hbf:∀ b d,frzV 0 b d (slI Lb) = some (slI Lb):=fun b d=>frzV_flat _ _ d _ hbr
   have hiB:=ints_immc (d:=false) [] (slI_rv Lb) (by omega)
   rw [found_end hT.lt]
   (repeat first|simp only [ww]|(apply xa;simp +decide only [go_sem,hn0,hsh,c1];rfl;kernel_rfl))
   refine xp_lpZ kp3_2 rfl (fun q F H1=>∃ (t:Nat) (V:AV) (H:Heap),q = n - t ∧ t ≤ n ∧ F = [(5,A),(6,.int .i64 n),(7,lsV La),(9,lsV gl),(11,lsV Lb),(13,lsV (aloneL tb n)),(15,slI Lb),(19,V),(20,.int .i64 t),(1000000,.junk)] ∧ H1 = H ∧ LN (aloneL tb t) V H) n ?_ ?_
   ·refine ⟨_,_,?_,0,.nilslice,[],rfl,Nat.zero_le _,rfl,rfl,.nil rfl⟩
    (simp +decide only [go_sem,gcD_eq,gcIds_eq,hAr,hAn,h1r,h1n,h2r,h2n,h3r,h3n,h4r,h4n,hbr,hbn]<;>rfl)<;>rfl
   ·rintro q F H1 ⟨t,V,H,rfl,ht,rfl,rfl,hLN⟩
    by_cases htl:t < n
    ·have d3:(t:Int) < n:=by omega
     have htw:=wI1 (n:=t) (by omega)
     (repeat first|simp only [ww]|(apply xa;simp +decide only [go_sem,d3];rfl;kernel_rfl))
     refine xp_lp kp3_4 (fun q F H1=>∃ (i:Nat) (V:AV) (H:Heap),q = tb.length - i ∧ i ≤ tb.length ∧ F = [(5,A),(6,.int .i64 n),(7,lsV La),(9,lsV gl),(11,lsV Lb),(13,lsV (aloneL tb n)),(15,slI Lb),(19,V),(20,.int .i64 t),(21,.int .i64 i)] ∧ H1 = H ∧ LN (alN tb t i) V H) tb.length ?_ ?_
     ·refine ⟨_,_,?_,0,V,_,rfl,Nat.zero_le _,rfl,rfl,by rw [alN_zero];exact hLN⟩
      cases hLN<;>((simp +decide only [go_sem,gcD_eq,gcIds_eq,hAr,hAn,h1r,h1n,h2r,h2n,h3r,h3n,h4r,h4n,hbr,hbn,refsI,renI]<;>rfl)<;>rfl)
     ·rintro q F H2 ⟨i,V,H,rfl,hi,rfl,rfl,hLN⟩
      have hlen:=tb_len hT.val
      by_cases hil:i < tb.length
      ·obtain ⟨r,hrr⟩:∃ r,tb[i]? = some r:=⟨_,List.getElem?_eq_getElem hil⟩
       obtain ⟨p,W,hp1,hp2,hW⟩:=tb_get hT.val (HeapF H2) hrr
       have hwl:=rv_len hW
       have e1:(i:Int) < tb.length:=by omega
       have hw:=wI1 (n:=i) (by omega)
       have hal:=alN_succ (t:=t) hrr
       have hln:=alN_len tb t i
       have hin:=in_call hLN.ls.ri (by omega) (d:=false) t
       have hrm:(alN tb t i).length + 1 ≤ 1000000000:=by omega
       have hstay:alN tb t (i + 1) = alN tb t i → LN (alN tb t (i + 1)) V H2:=fun e=>by rw [e];exact hLN
       have hgc:∀ x:Int,∀ z:List (Nat × AV),gcD 0 [5,6,7,9,11,13,15,19,20,21] ([(21,.int .i64 x)] ++ z) H2 = gcD 0 [5,6,7,9,11,13,15,19,20,21] ([(21,.int .i64 x)] ++ z) H2:=fun _ _=>rfl
       by_cases h1:r.length = 1
       ·obtain ⟨v,rfl⟩:=List.length_eq_one_iff.1 h1
        obtain ⟨p2,hq1,hq2⟩:=rv_get hW (HeapF H2) (i:=0) (v:=v) rfl
        simp only [Int.natCast_zero] at hq1
        have hc1:((List.length [v]:Nat):Int) = 1:=rfl
        by_cases hvt:v = t
        ·subst hvt
         by_cases hc2:(alN tb v i).contains v = true
         ·rw [if_neg (by rw [hc2];simp)] at hal
          rw [hc2] at hin
          have hLN2:=hstay hal
          (repeat first|simp only [ww]|(apply xa;simp +decide only [go_sem,hlen,e1,hp1,hp2,hwl,hc1,hq1,hq2,hin,hw];rfl;kernel_rfl))
          refine lpJ_n (tb.length - (i + 1)) (by omega) ⟨_,_,?_,i + 1,V,_,rfl,hil,rfl,rfl,hLN2⟩
          cases hLN<;>((simp +decide only [go_sem,gcD_eq,gcIds_eq,hAr,hAn,h1r,h1n,h2r,h2n,h3r,h3n,h4r,h4n,hbr,hbn,refsI,renI]<;>rfl)<;>rfl)
         ·have hc2:(alN tb v i).contains v = false:=by simpa using hc2
          rw [if_pos ⟨rfl,hc2⟩] at hal
          rw [hc2] at hin
          generalize alN tb v i = o at hal hln hin hrm hLN
          cases hLN with
          | nil h0=>
           subst h0
           (repeat first|simp only [ww]|(apply xa;simp +decide only [go_sem,hlen,e1,hp1,hp2,hwl,hc1,hq1,hq2,hin,hw];rfl;kernel_rfl))
           refine lpJ_n (tb.length - (i + 1)) (by omega) ⟨_,_,?_,i + 1,.slice 0 0 ([] ++ [v]).length none,_,rfl,hil,rfl,rfl,by rw [hal];exact .blk (by simp)⟩
           (simp +decide only [go_sem,gcD_eq,gcIds_eq,hAr,hAn,h1r,h1n,h2r,h2n,h3r,h3n,h4r,h4n,hbr,hbn,List.nil_append,List.map_cons,List.map_nil,List.length_cons,List.length_nil]<;>rfl)<;>rfl
          | blk h0=>
           (repeat first|simp only [ww]|(apply xa;simp +decide only [go_sem,hlen,e1,hp1,hp2,hwl,hc1,hq1,hq2,hin,hw,hrm,List.length_map];rfl;kernel_rfl))
           refine lpJ_n (tb.length - (i + 1)) (by omega) ⟨_,_,?_,i + 1,.slice 0 0 (o ++ [v]).length none,_,rfl,hil,rfl,rfl,by rw [hal];exact .blk (by simp)⟩
           (simp +decide only [go_sem,gcD_eq,gcIds_eq,hAr,hAn,h1r,h1n,h2r,h2n,h3r,h3n,h4r,h4n,hbr,hbn,List.map_append,List.map_cons,List.map_nil,List.length_append,List.length_cons,List.length_nil,refsI,renI]<;>rfl)<;>rfl
        ·have hc3:((v:Int) = t) = False:=eq_false (by omega)
         rw [if_neg (by simp [hvt])] at hal
         have hLN2:=hstay hal
         (repeat first|simp only [ww]|(apply xa;simp +decide only [go_sem,hlen,e1,hp1,hp2,hwl,hc1,hq1,hq2,hc3,hw];rfl;kernel_rfl))
         refine lpJ_n (tb.length - (i + 1)) (by omega) ⟨_,_,?_,i + 1,V,_,rfl,hil,rfl,rfl,hLN2⟩
         cases hLN<;>((simp +decide only [go_sem,gcD_eq,gcIds_eq,hAr,hAn,h1r,h1n,h2r,h2n,h3r,h3n,h4r,h4n,hbr,hbn,refsI,renI]<;>rfl)<;>rfl)
       ·have hc1:(((r.length:Nat):Int) = 1) = False:=eq_false (by omega)
        rw [if_neg (by rintro ⟨e,_⟩;rw [e] at h1;exact h1 rfl)] at hal
        have hLN2:=hstay hal
        (repeat first|simp only [ww]|(apply xa;simp +decide only [go_sem,hlen,e1,hp1,hp2,hwl,hc1,hw];rfl;kernel_rfl))
        refine lpJ_n (tb.length - (i + 1)) (by omega) ⟨_,_,?_,i + 1,V,_,rfl,hil,rfl,rfl,hLN2⟩
        cases hLN<;>((simp +decide only [go_sem,gcD_eq,gcIds_eq,hAr,hAn,h1r,h1n,h2r,h2n,h3r,h3n,h4r,h4n,hbr,hbn,refsI,renI]<;>rfl)<;>rfl)
      ·obtain rfl:i = tb.length:=by omega
       have e1:¬ (tb.length:Int) < tb.length:=by omega
       rw [alN_end] at hLN
       (repeat first|simp only [ww]|(apply xa;simp +decide only [go_sem,hlen,e1,htw];rfl;kernel_rfl))
       refine lpJ_n (n - (t + 1)) (by omega) ⟨_,_,?_,t + 1,V,_,rfl,htl,rfl,rfl,hLN⟩
       cases hLN<;>((simp +decide only [go_sem,gcD_eq,gcIds_eq,hAr,hAn,h1r,h1n,h2r,h2n,h3r,h3n,h4r,h4n,hbr,hbn,refsI,renI]<;>rfl)<;>rfl)
    ·obtain rfl:t = n:=by omega
     have d3:¬ (t:Int) < t:=by omega
     obtain ⟨W,hW1,hW2⟩:=hLN.ls.frz
     (repeat first|simp only [ww]|(apply xa;simp +decide only [go_sem,d3];rfl;kernel_rfl))
     rw [fz_rw]
     simp +decide only [go_sem,hAf,h1f,h2f,h3f,h4f,hbf,hW1]
     have hWr:=hW2.refs
     have hWn:∀ π,ren π W = W:=fun π=>ren_flat π W hWr
     have hall:=aloneL_len tb t
     have hiW:=ints_immc (d:=false) [] hW2 (by omega)
     generalize aloneL tb t = al at *
     have hWl:=rv_len hW2
     (repeat first|simp only [ww]|(apply xa;simp +decide only [go_sem];rfl;kernel_rfl))
     refine xp_lp kp3_6 (fun q F H1=>∃ (i:Nat),q = al.length - i ∧ i ≤ al.length ∧ F = [(7,lsV La),(9,lsV gl),(11,lsV Lb),(13,lsV al),(15,slI Lb),(19,W),(22,.int .i64 i)] ∧ H1 = []) al.length ?_ ?_
     ·refine ⟨_,_,?_,0,rfl,Nat.zero_le _,rfl,rfl⟩
      (simp +decide only [go_sem,gcD_eq,gcIds_eq,hAr,hAn,h1r,h1n,h2r,h2n,h3r,h3n,h4r,h4n,hbr,hbn,hWr,hWn]<;>rfl)<;>rfl
     ·rintro q F H1 ⟨i,rfl,hi,rfl,rfl⟩
      by_cases hil:i < al.length
      ·obtain ⟨v,hv⟩:∃ v,al[i]? = some v:=⟨_,List.getElem?_eq_getElem hil⟩
       have hvm:=List.mem_of_getElem? hv
       obtain ⟨p,hp1,hp2⟩:=rv_get hW2 (HeapF []) hv
       have hi1:=in_callF (d:=false) [] (lsV_rv La) (by omega) v
       have hi2:=in_callF (d:=false) [] (lsV_rv gl) (by omega) v
       have hi3:=in_callF (d:=false) [] (lsV_rv Lb) (by omega) v
       rw [hala v hvm] at hi1
       rw [halg v hvm] at hi2
       rw [halc v hvm] at hi3
       have e1:(i:Int) < al.length:=by omega
       have hw:=wI1 (n:=i) (by omega)
       (repeat first|simp only [ww]|(apply xa;simp +decide only [go_sem,hWl,e1,hp1,hp2,hi1,hi2,hi3,hw];rfl;kernel_rfl))
       refine lpJ_n (al.length - (i + 1)) (by omega) ⟨_,_,?_,i + 1,rfl,hil,rfl,rfl⟩
       (simp +decide only [go_sem,gcD_eq,gcIds_eq,hAr,hAn,h1r,h1n,h2r,h2n,h3r,h3n,h4r,h4n,hbr,hbn,hWr,hWn]<;>rfl)<;>rfl
      ·obtain rfl:i = al.length:=by omega
       have e1:¬ (al.length:Int) < al.length:=by omega
       (repeat first|simp only [ww]|(apply xa;simp +decide only [go_sem,hWl,e1,hiB,hiW,hlv];rfl;kernel_rfl))
       refine fqE_r (vs:=[.bool true]) (r:=(_,_)) (by simp +decide only [go_sem]) ?_ rfl
       simp +decide only [go_sem,finish]<;>rfl
end Go.KInst
