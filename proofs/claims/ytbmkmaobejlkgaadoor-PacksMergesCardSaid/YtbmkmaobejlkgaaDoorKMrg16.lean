/- Part of a proof. No condition. -/
import Derived.Test.YtbmkmaobejlkgaaDoorKMrg15
set_option linter.unusedSimpArgs false
set_option linter.unusedVariables false
namespace Go.KInst
open Go.Proofs Go.Ax Go.Pc
set_option maxRecDepth 100000
theorem all_len (p:Cb):p.all.length = p.n:=by simp [Cb.all,Cb.n]
theorem cntZ_zero {f:Nat → Nat → Bool} {a b:List Nat} {i:Nat} (ha:a.length = i):cntZ f a b i = 0 ↔ ∀ (j x y:Nat),a[j]? = some x → b[j]? = some y → f x y = false:=by
 unfold cntZ
 rw [List.take_of_length_le (by simp;omega),List.countP_eq_zero]
 constructor
 ·intro h j x y hx hy
  have:(x,y) ∈ a.zip b:=List.mem_iff_getElem?.2 ⟨j,by rw [List.getElem?_zip_eq_some];exact ⟨hx,hy⟩⟩
  simpa using h _ this
 ·intro h z hz
  obtain ⟨j,hj⟩:=List.mem_iff_getElem?.1 hz
  obtain ⟨x,y⟩:=z
  rw [List.getElem?_zip_eq_some] at hj
  simpa using h j x y hj.1 hj.2
theorem cmpB_iff {p q:Cb}:cmpB p q = true ↔ ∀ (j x y:Nat),p.all[j]? = some x → q.all[j]? = some y → x + y ≠ 1:=by
 unfold cmpB
 rw [decide_eq_true_iff,cntZ_zero (all_len p)]
 simp [disF]
theorem covB_iff {p q:Cb}:covB p q = true ↔ ∀ (j x y:Nat),p.all[j]? = some x → q.all[j]? = some y → x = 2 ∨ x = y:=by
 unfold covB
 rw [decide_eq_true_iff,cntZ_zero (all_len p)]
 constructor
 ·intro h j x y hx hy
  have:=h j x y hx hy
  unfold covF at this
  by_cases h1:x = 2
  ·exact .inl h1
  ·by_cases h2:x = y
   ·exact .inr h2
   ·simp [h1,h2] at this
 ·intro h j x y hx hy
  rcases h j x y hx hy with h1|h1<;>simp [covF,h1]
theorem mrg_all {n m:Nat} {p q:Cb} (hp:p.sh n m) (hq:q.sh n m):(mrgC p q).all = List.zipWith min p.all q.all:=by
 unfold Cb.all mrgC
 rw [List.zipWith_append (by rw [hp.ins,hq.ins])]
theorem zip_get {a b:List Nat} {j z:Nat} (h:(List.zipWith min a b)[j]? = some z):∃ x y,a[j]? = some x ∧ b[j]? = some y ∧ z = min x y:=by
 rw [List.getElem?_zipWith] at h
 cases ha:a[j]? with
 | none=>rw [ha] at h;simp at h
 | some x=>
  cases hb:b[j]? with
  | none=>rw [ha,hb] at h;simp at h
  | some y=>rw [ha,hb] at h;simp at h;exact ⟨x,y,rfl,rfl,h.symm⟩
theorem sh_get {n m:Nat} {p q:Cb} (hp:p.sh n m) (hq:q.sh n m) {j x:Nat} (h:p.all[j]? = some x):∃ y,q.all[j]? = some y:=by
 have:=(List.getElem?_eq_some_iff.1 h).1
 refine ⟨_,List.getElem?_eq_getElem (by rw [all_len] at this ⊢;unfold Cb.n at this ⊢;rw [hp.ins,hp.sts] at this;rw [hq.ins,hq.sts];exact this)⟩
theorem sh_le {n m:Nat} {p:Cb} (hp:p.sh n m) {j x:Nat} (h:p.all[j]? = some x):x ≤ 2:=hp.ok.2 x (List.mem_of_getElem? h)
theorem cov_self (p:Cb):covB p (relC p) = true:=covB_iff.2 fun j x y hx hy=>by
 rw [show (relC p).all = p.all from rfl,hx] at hy;injection hy with hy;exact .inr hy
/-- What a cube covers it covers merged; and the merged one is covered by the second. -/
theorem cov_left {n m:Nat} {r q p:Cb} (hr:r.sh n m) (hq:q.sh n m) (hp:p.sh n m) (h:covB r q = true) (hc:cmpB p q = true):covB r (mrgC q p) = true:=by
 rw [covB_iff] at h ⊢
 rw [cmpB_iff] at hc
 intro j x z hx hz
 rw [mrg_all hq hp] at hz
 obtain ⟨a,b,ha,hb,rfl⟩:=zip_get hz
 have h1:=h j x a hx ha
 have h2:=hc j b a hb ha
 have h3:=sh_le hr hx
 have h4:=sh_le hq ha
 have h5:=sh_le hp hb
 omega
theorem cov_right {n m:Nat} {q p:Cb} (hq:q.sh n m) (hp:p.sh n m) (hc:cmpB p q = true):covB p (mrgC q p) = true:=by
 rw [covB_iff]
 rw [cmpB_iff] at hc
 intro j x z hx hz
 rw [mrg_all hq hp] at hz
 obtain ⟨a,b,ha,hb,rfl⟩:=zip_get hz
 rw [hb] at hx
 injection hx with hx
 have h2:=hc j b a hb ha
 have h4:=sh_le hq ha
 have h5:=sh_le hp hb
 omega
/-- Two that differ in a bit still differ when one of them is merged. -/
theorem ncmp_merge {n m:Nat} {y q p:Cb} (hy:y.sh n m) (hq:q.sh n m) (hp:p.sh n m) (hc:cmpB p q = true) (h:cmpB y q = false):cmpB y (mrgC q p) = false:=by
 cases h1:cmpB y (mrgC q p) with
 | false=>rfl
 | true=>
  rw [cmpB_iff] at h1 hc
  have:cmpB y q = true:=cmpB_iff.2 fun j a b ha hb=>by
   obtain ⟨c,hcj⟩:=sh_get hq hp hb
   have h2:=h1 j a (min b c) ha (by rw [mrg_all hq hp,List.getElem?_zipWith,hb,hcj])
   have h3:=hc j c b hcj hb
   have h4:=sh_le hq hb
   have h5:=sh_le hp hcj
   have h6:=sh_le hy ha
   omega
  rw [h] at this;cases this
/-- What the merging keeps. -/
structure PInv (n m:Nat) (ps:List Cb) (i:Nat) (s:List Cb × List (List Nat)):Prop where
 pw:∀ (a b:Nat) (x y:Cb),a < b → s.1[a]? = some x → s.1[b]? = some y → cmpB y x = false
 cov:∀ (k:Nat) (g:List Nat) (o:Cb) (t:Nat),s.2[k]? = some g → s.1[k]? = some o → t ∈ g → ∃ p,ps[t]? = some p ∧ covB p o = true
theorem findIdx?_none' {f:Cb → Bool} {l:List Cb} (h:l.findIdx? f = none) {a:Nat} {x:Cb} (hx:l[a]? = some x):f x = false:=by
 rw [List.findIdx?_eq_none_iff] at h
 exact h x (List.mem_of_getElem? hx)
theorem PInv.step {n m i:Nat} {ps:List Cb} {s:List Cb × List (List Nat)} {p:Cb} (hps:∀ p ∈ ps,p.sh n m) (hM:MInv n m i s) (h:PInv n m ps i s) (hp:ps[i]? = some p):PInv n m ps (i + 1) (mstep s i p):=by
 have hpS:=hps p (List.mem_of_getElem? hp)
 unfold mstep
 split
 ·rename_i hn
  have hat:∀ (b:Nat) (y:Cb),(s.1 ++ [relC p])[b]? = some y → (b = s.1.length ∧ y = relC p) ∨ s.1[b]? = some y:=by
   intro b y hy
   by_cases hb:b < s.1.length
   ·rw [List.getElem?_append_left hb] at hy;exact .inr hy
   ·have hl:=(List.getElem?_eq_some_iff.1 hy).1
    simp only [List.length_append,List.length_singleton] at hl
    obtain rfl:b = s.1.length:=by omega
    simp at hy;exact .inl ⟨rfl,hy.symm⟩
  refine ⟨fun a b x y hab hx hy=>?_,fun k g o t hg ho ht=>?_⟩
  ·dsimp only at hx hy
   rcases hat b y hy with ⟨rfl,rfl⟩|hy
   ·rcases hat a x hx with ⟨rfl,rfl⟩|hx
    ·omega
    ·exact findIdx?_none' hn hx
   ·rcases hat a x hx with ⟨rfl,rfl⟩|hx
    ·have:=(List.getElem?_eq_some_iff.1 hy).1;omega
    ·exact h.pw a b x y hab hx hy
  ·dsimp only at hg ho
   rcases hat k o ho with ⟨rfl,rfl⟩|ho
   ·rw [hM.len] at hg
    simp at hg;subst hg
    simp at ht;subst ht
    exact ⟨p,hp,cov_self p⟩
   ·have hk:=(List.getElem?_eq_some_iff.1 ho).1
    rw [hM.len] at hk
    rw [List.getElem?_append_left hk] at hg
    exact h.cov k g o t hg ho ht
 ·rename_i k hk
  obtain ⟨hkl,hkc,_⟩:=List.findIdx?_eq_some_iff_getElem.1 hk
  obtain ⟨q,hq⟩:∃ q,s.1[k]? = some q:=⟨_,List.getElem?_eq_getElem hkl⟩
  have hqe:s.1[k] = q:=(List.getElem?_eq_some_iff.1 hq).2
  rw [hqe] at hkc
  have hqS:=hM.sh q (List.mem_of_getElem? hq)
  have hk2:k < s.2.length:=by rw [← hM.len];exact hkl
  obtain ⟨g0,hg0⟩:∃ g,s.2[k]? = some g:=⟨_,List.getElem?_eq_getElem hk2⟩
  simp only [List.getD_eq_getElem?_getD,hq,hg0,Option.getD_some]
  have hat:∀ (b:Nat) (y:Cb),(s.1.set k (mrgC q p))[b]? = some y → (b = k ∧ y = mrgC q p) ∨ (b ≠ k ∧ s.1[b]? = some y):=by
   intro b y hy
   by_cases hb:k = b
   ·subst hb
    rw [List.getElem?_set_self hkl] at hy
    injection hy with hy
    exact .inl ⟨rfl,hy.symm⟩
   ·rw [List.getElem?_set_ne hb] at hy;exact .inr ⟨Ne.symm hb,hy⟩
  refine ⟨fun a b x y hab hx hy=>?_,fun k' g o t hg ho ht=>?_⟩
  ·dsimp only at hx hy
   rcases hat b y hy with ⟨rfl,rfl⟩|⟨_,hy2⟩
   ·rcases hat a x hx with ⟨rfl,rfl⟩|⟨_,hx⟩
    ·omega
    ·have hxS:=hM.sh x (List.mem_of_getElem? hx)
     have h1:=h.pw a b x q hab hx hq
     have h2:cmpB x q = false:=by rw [cmpB_symm (hxS.two hqS)];exact h1
     have h3:=ncmp_merge hxS hqS hpS hkc h2
     rw [cmpB_symm ((mrgC_sh hqS hpS).two hxS)];exact h3
   ·have hyS:=hM.sh y (List.mem_of_getElem? hy2)
    rcases hat a x hx with ⟨rfl,rfl⟩|⟨_,hx⟩
    ·exact ncmp_merge hyS hqS hpS hkc (h.pw a b q y hab hq hy2)
    ·exact h.pw a b x y hab hx hy2
  ·dsimp only at hg ho
   rcases hat k' o ho with ⟨rfl,rfl⟩|⟨hne,ho⟩
   ·rw [List.getElem?_set_self hk2] at hg
    injection hg with hg
    subst hg
    rcases List.mem_append.1 ht with ht|ht
    ·obtain ⟨r,hr,hc⟩:=h.cov _ g0 q t hg0 hq ht
     exact ⟨r,hr,cov_left (hps r (List.mem_of_getElem? hr)) hqS hpS hc hkc⟩
    ·simp at ht;subst ht
     exact ⟨p,hp,cov_right hqS hpS hkc⟩
   ·rw [List.getElem?_set_ne (Ne.symm hne)] at hg
    exact h.cov k' g o t hg ho ht
theorem mrun_pinv {n m:Nat} {ps:List Cb} (h:∀ p ∈ ps,p.sh n m):∀ i,PInv n m ps i (mrun ps i)
 | 0=>⟨fun a b x y _ hx=>by simp [mrun] at hx,fun k g o t hg=>by simp [mrun] at hg⟩
 | i + 1=>by
  have ih:=mrun_pinv h i
  have hM:=mrun_inv h i
  cases hp:ps[i]? with
  | none=>
   have e:mrun ps (i + 1) = mrun ps i:=by simp only [mrun,hp]
   rw [e];exact ⟨ih.pw,ih.cov⟩
  | some p=>rw [mrun_succ hp];exact ih.step h hM hp
/-- Merging the merged ones changes nothing. -/
theorem mrun_again {n m:Nat} {ps:List Cb} (h:∀ p ∈ ps,p.sh n m) (i:Nat):∀ j,j ≤ (mrun ps i).1.length → (mrun (mrun ps i).1 j).1 = ((mrun ps i).1.take j).map relC
 | 0,_=>rfl
 | j + 1,hj=>by
  have ih:=mrun_again h i j (by omega)
  have hP:=(mrun_pinv h i).pw
  generalize (mrun ps i).1 = outs at *
  obtain ⟨p,hp⟩:∃ p,outs[j]? = some p:=⟨_,List.getElem?_eq_getElem hj⟩
  rw [mrun_succ hp]
  have hn:(mrun outs j).1.findIdx? (cmpB p) = none:=by
   rw [ih,List.findIdx?_eq_none_iff]
   intro x hx
   obtain ⟨y,hy,rfl⟩:=List.mem_map.1 hx
   obtain ⟨a,ha⟩:=List.mem_iff_getElem?.1 hy
   have hal:a < j:=by
    have:=(List.getElem?_eq_some_iff.1 ha).1
    simp at this;omega
   rw [List.getElem?_take_of_lt hal] at ha
   exact hP a j y p hal ha hp
  unfold mstep
  simp only [hn]
  rw [ih,List.take_add_one,hp];simp
/-- The law's own merging. -/
def wstep (s:List Cb × List (List Nat)) (i:Nat) (p:Cb):List Cb × List (List Nat):=match s.1.findIdx? (fun w=>cmpB w p) with
 | none=>(s.1 ++ [p],s.2 ++ [[i]])
 | some k=>(s.1.set k (mrgC (s.1.getD k p) p),s.2.set k (s.2.getD k [] ++ [i]))
def wrun (ps:List Cb):Nat → List Cb × List (List Nat)
 | 0=>([],[])
 | i + 1=>match ps[i]? with
  | some p=>wstep (wrun ps i) i p
  | none=>wrun ps i
theorem wrun_succ {ps:List Cb} {i:Nat} {p:Cb} (h:ps[i]? = some p):wrun ps (i + 1) = wstep (wrun ps i) i p:=by simp only [wrun,h]
theorem MInv.wstep {n m i:Nat} {s:List Cb × List (List Nat)} {p:Cb} (h:MInv n m i s) (hp:p.sh n m):MInv n m (i + 1) (wstep s i p):=by
 unfold KInst.wstep
 split
 ·refine ⟨by simp [h.len],by simp;exact h.le,fun q hq=>?_,fun g hg=>?_⟩
  ·rcases List.mem_append.1 hq with hq|hq
   ·exact h.sh q hq
   ·simp at hq;subst hq;exact hp
  ·rcases List.mem_append.1 hg with hg|hg
   ·have:=h.ne g hg;exact ⟨this.1,by omega⟩
   ·simp at hg;subst hg;exact ⟨by simp,by simp⟩
 ·rename_i k hk
  have hkl:=(List.findIdx?_eq_some_iff_getElem.1 hk).1
  refine ⟨by simp [h.len],by simp;have:=h.le;omega,fun q hq=>?_,fun g hg=>?_⟩
  ·rcases List.mem_or_eq_of_mem_set hq with hq|rfl
   ·exact h.sh q hq
   ·refine mrgC_sh ?_ hp
    rw [List.getD_eq_getElem?_getD,List.getElem?_eq_getElem hkl]
    exact h.sh _ (List.getElem_mem hkl)
  ·rcases List.mem_or_eq_of_mem_set hg with hg|rfl
   ·have:=h.ne g hg;exact ⟨this.1,by omega⟩
   ·refine ⟨by simp,?_⟩
    have hk2:k < s.2.length:=by rw [← h.len];exact hkl
    rw [List.getD_eq_getElem?_getD,List.getElem?_eq_getElem hk2]
    have:=(h.ne _ (List.getElem_mem hk2)).2
    simp;omega
theorem wrun_inv {n m:Nat} {ps:List Cb} (h:∀ p ∈ ps,p.sh n m):∀ i,MInv n m i (wrun ps i)
 | 0=>⟨rfl,Nat.le_refl _,fun q hq=>by simp [wrun] at hq,fun g hg=>by simp [wrun] at hg⟩
 | i + 1=>by
  have ih:=wrun_inv h i
  cases hp:ps[i]? with
  | none=>
   have e:wrun ps (i + 1) = wrun ps i:=by simp only [wrun,hp]
   rw [e];exact ⟨ih.len,by have:=ih.le;omega,ih.sh,fun g hg=>⟨(ih.ne g hg).1,by have:=(ih.ne g hg).2;omega⟩⟩
  | some p=>rw [wrun_succ hp];exact ih.wstep (h p (List.mem_of_getElem? hp))
/-- The bits alone. -/
def nz (p:Cb):Cb:=⟨none,p.ins,none,p.sts⟩
theorem nz_ins {p q:Cb} (h:nz p = nz q):p.ins = q.ins ∧ p.sts = q.sts:=by
 unfold nz at h;injection h with _ h1 _ h2;exact ⟨h1,h2⟩
theorem find_nz (p:Cb) (l:List Cb):l.findIdx? (cmpB p) = (l.map nz).findIdx? (cmpB p):=by
 rw [List.findIdx?_map];rfl
theorem find_symm {n m:Nat} {p:Cb} (hp:p.sh n m):∀ {l:List Cb},(∀ q ∈ l,q.sh n m) → l.findIdx? (fun w=>cmpB w p) = l.findIdx? (cmpB p)
 | [],_=>rfl
 | a :: l,h=>by
  have ih:=find_symm hp (l:=l) fun q hq=>h q (by simp [hq])
  have e:cmpB a p = cmpB p a:=cmpB_symm ((h a (by simp)).two hp)
  simp only [List.findIdx?_cons,e,ih]
theorem mrg_nz {a b p:Cb} (h:nz a = nz b):nz (mrgC a p) = nz (mrgC b p):=by
 obtain ⟨h1,h2⟩:=nz_ins h
 unfold nz mrgC
 simp only [h1,h2]
theorem run_same {n m:Nat} {ps:List Cb} (h:∀ p ∈ ps,p.sh n m):∀ i,(mrun ps i).1.map nz = (wrun ps i).1.map nz ∧ (mrun ps i).2 = (wrun ps i).2
 | 0=>⟨rfl,rfl⟩
 | i + 1=>by
  obtain ⟨h1,h2⟩:=run_same h i
  cases hp:ps[i]? with
  | none=>simp only [mrun,wrun,hp];exact ⟨h1,h2⟩
  | some p=>
   have hpS:=h p (List.mem_of_getElem? hp)
   rw [mrun_succ hp,wrun_succ hp]
   have hW:=wrun_inv h i
   have hf:(mrun ps i).1.findIdx? (cmpB p) = (wrun ps i).1.findIdx? (fun w=>cmpB w p):=by
    rw [find_symm hpS hW.sh,find_nz,h1,← find_nz]
   unfold mstep wstep
   rw [← hf]
   cases hfi:(mrun ps i).1.findIdx? (cmpB p) with
   | none=>exact ⟨by simp only [List.map_append,h1];rfl,by simp only [h2]⟩
   | some k=>
    refine ⟨?_,by simp only [h2]⟩
    simp only [List.map_set,h1]
    have:nz ((mrun ps i).1.getD k p) = nz ((wrun ps i).1.getD k p):=by
     have:=congrArg (fun l=>(l:List Cb)[k]?.getD (nz p)) h1
     simp only [List.getElem?_map] at this
     rw [List.getD_eq_getElem?_getD,List.getD_eq_getElem?_getD]
     cases ha:(mrun ps i).1[k]?<;>cases hb:(wrun ps i).1[k]?<;>rw [ha,hb] at this<;>simpa using this
    rw [mrg_nz this]
end Go.KInst
