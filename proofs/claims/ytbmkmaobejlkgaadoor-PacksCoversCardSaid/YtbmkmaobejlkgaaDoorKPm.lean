/- Part of a proof. No condition. -/
import Derived.Test.YtbmkmaobejlkgaaDoorKPck14
import Derived.Test.YtbmkmaobejlkgaaDoorKSt
import Derived.Test.YtbmkmaobejlkgaaDoorPcP
set_option linter.unusedSimpArgs false
set_option linter.unusedVariables false
namespace Go.KInst
open Go.Proofs Go.Ax Go.Pc
set_option maxRecDepth 100000
noncomputable def cP:CallF:=fun g args H=>if g = 62 then runFn L.env c0 9 g args H else none
noncomputable def cT:CallF:=fun g args H=>if g = 64 then runFn L.env c0 9 g args H else none
theorem cP_up:∀ g args H r,cP g args H = some r → sem L.env Mf g args H = some r:=by
 intro g args H r h
 unfold cP at h
 split at h
 ·rename_i e;subst e
  exact sem_up (fun _ _ _ _ h=>by cases h) (by decide) 9 h
 ·cases h
theorem cT_up:∀ g args H r,cT g args H = some r → sem L.env Mf g args H = some r:=by
 intro g args H r h
 unfold cT at h
 split at h
 ·rename_i e;subst e
  exact sem_up (fun _ _ _ _ h=>by cases h) (by decide) 9 h
 ·cases h
theorem pop_all:(List.range 256).map (fun (n:Nat)=>runFn L.env cP 9 37 [u64 (BitVec.ofNat 64 n)] []) = (List.range 256).map fun (n:Nat)=>some (.int .i64 (popN n:Nat),[]):=by kernel_rfl
theorem pop_call {d:Bool} (H:Heap) (n:Nat) (h:n < 256):callV L.env d (sem L.env Mf) (.func (.func 37) [] []) [u64 (BitVec.ofNat 64 n)] H = some (.int .i64 (popN n:Nat),H,[]):=by
 have k:=congrArg (fun l=>l[n]?) pop_all
 simp only [List.getElem?_map,List.getElem?_range h,Option.map_some,Option.some.injEq] at k
 exact callV_flat (by kernel_rfl) (by kernel_rfl) rfl rfl (sem_up cP_up (by decide) 9 k) rfl
theorem tz_all:(List.range 256).map (fun (n:Nat)=>runFn L.env cT 9 38 [u64 (BitVec.ofNat 64 n)] []) = (List.range 256).map fun (n:Nat)=>some (.int .i64 (tzN n:Nat),[]):=by kernel_rfl
theorem tz_call {d:Bool} (H:Heap) (n:Nat) (h:n < 256):callV L.env d (sem L.env Mf) (.func (.func 38) [] []) [u64 (BitVec.ofNat 64 n)] H = some (.int .i64 (tzN n:Nat),H,[]):=by
 have k:=congrArg (fun l=>l[n]?) tz_all
 simp only [List.getElem?_map,List.getElem?_range h,Option.map_some,Option.some.injEq] at k
 exact callV_flat (by kernel_rfl) (by kernel_rfl) rfl rfl (sem_up cT_up (by decide) 9 k) rfl
/-! small numbers as words -/
def bR (m:Nat):List AV:=[u64 (BitVec.ofNat 64 m)]
theorem flatB (l:List Nat):FlatR (l.map bR):=FlatR.map fun _=>rfl
section
variable {E:Env} {t:TypeId} {c:Bool} {a b:Nat}
theorem bv_nat (h:a < 18446744073709551616):(BitVec.ofNat 64 a).toNat = a:=by rw [BitVec.toNat_ofNat];exact Nat.mod_eq_of_lt h
theorem b_lss (ha:a < 18446744073709551616) (hb:b < 18446744073709551616):abin E .lss t (u64 (BitVec.ofNat 64 a)) (u64 (BitVec.ofNat 64 b)) c = some (.bool (decide (a < b))):=by
 simp only [u64,abin_lss,bv_nat ha,bv_nat hb];simp
theorem b_gtr (ha:a < 18446744073709551616) (hb:b < 18446744073709551616):abin E .gtr t (u64 (BitVec.ofNat 64 a)) (u64 (BitVec.ofNat 64 b)) c = some (.bool (decide (b < a))):=by
 simp only [u64,abin_gtr,bv_nat ha,bv_nat hb];simp
theorem b_inj (ha:a < 18446744073709551616) (hb:b < 18446744073709551616):(BitVec.ofNat 64 a = BitVec.ofNat 64 b) = (a = b):=by
 rw [eq_iff_iff]
 constructor
 ·intro h
  have:=congrArg BitVec.toNat h
  rwa [bv_nat ha,bv_nat hb] at this
 ·rintro rfl;rfl
theorem b_and:BitVec.ofNat 64 a &&& BitVec.ofNat 64 b = BitVec.ofNat 64 (a &&& b):=by
 apply BitVec.eq_of_toNat_eq;simp [Nat.and_mod_two_pow]
theorem b_or:BitVec.ofNat 64 a ||| BitVec.ofNat 64 b = BitVec.ofNat 64 (a ||| b):=by
 apply BitVec.eq_of_toNat_eq;simp [Nat.or_mod_two_pow]
theorem b_xor:BitVec.ofNat 64 a ^^^ BitVec.ofNat 64 b = BitVec.ofNat 64 (a ^^^ b):=by
 apply BitVec.eq_of_toNat_eq;simp [Nat.xor_mod_two_pow]
theorem b_shl (h:a < 64):1#64 <<< a = BitVec.ofNat 64 (2 ^ a):=by
 apply BitVec.eq_of_toNat_eq;simp [Nat.shiftLeft_eq]
theorem b_shr (h:a < 18446744073709551616):BitVec.ofNat 64 a >>> b = BitVec.ofNat 64 (a / 2 ^ b):=by
 apply BitVec.eq_of_toNat_eq
 rw [BitVec.toNat_ushiftRight,bv_nat h,bv_nat (Nat.lt_of_le_of_lt (Nat.div_le_self _ _) h),Nat.shiftRight_eq_div_pow]
theorem b_add1:BitVec.ofNat 64 a + 1#64 = BitVec.ofNat 64 (a + 1):=by
 apply BitVec.eq_of_toNat_eq;simp
theorem b_one:BitVec.ofNat 64 a &&& 1#64 = BitVec.ofNat 64 (a % 2):=by
 rw [b_and,Nat.and_one_is_mod]
end
theorem bi0:BitVec.ofInt 64 0 = BitVec.ofNat 64 0:=by rfl
theorem bi1:BitVec.ofInt 64 1 = BitVec.ofNat 64 1:=by rfl
theorem b_neq {E:Env} {t:TypeId} {c:Bool} (x y:BitVec 64):abin E .neq t (u64 x) (u64 y) c = some (.bool (!decide (x = y))):=by
 simp only [u64,abin_neq]
 congr 2
 rw [Bool.eq_iff_iff]
 simp only [Bool.not_eq_true',decide_eq_false_iff_not]
 constructor
 ·intro h e;exact h (by rw [e])
 ·intro h e;exact h (BitVec.eq_of_toNat_eq (by omega))
/-- Least's innermost closure. -/
theorem l11_ok (m x:Nat) (hm:m < 18446744073709551616):sem L.env Mf 35 [u64 (BitVec.ofNat 64 m),.ptr 0 0 0] [some (.row 1 [bR x])] = some (.bool (decide (m &&& x = 0)),[some (.row 1 [bR x])]):=by
 have h:=b_inj (a:=m &&& x) (b:=0) (Nat.lt_of_le_of_lt Nat.and_le_left hm) (by omega)
 (refine sv Tryd.f35 ?_;simp only [Tryd.f35,gS])
 (repeat first|simp only [ww]|(apply xa;simp +decide only [go_sem,bR,b_and,bi0,h];rfl;kernel_rfl))
 (apply fqb;simp +decide only [go_sem,bR]<;>rfl)
theorem l11_call {d:Bool} (m x:Nat) (hm:m < 18446744073709551616):callV L.env d (sem L.env Mf) (.func (.func 35) [] [.ptr 0 0 0]) [u64 (BitVec.ofNat 64 m)] [some (.row 1 [bR x])] = some (.bool (decide (m &&& x = 0)),[some (.row 1 [bR x])],[0]):=
 callV_one (fs:=[]) (cs:=[.ptr 0 0 0]) (args:=[u64 (BitVec.ofNat 64 m),.ptr 0 0 0]) (b:=0) (by kernel_rfl) (by kernel_rfl) rfl rfl rfl (FlatO.row (FlatR.cons rfl FlatR.nil)) rfl rfl (l11_ok m x hm) rfl
theorem bR_get {ms:List Nat} {i m:Nat} {rest:List (List AV)} (h:ms[i]? = some m):(ms.map bR ++ rest)[i]? = some (bR m):=by
 rw [List.getElem?_append_left (by simpa using (List.getElem?_eq_some_iff.1 h).1),List.getElem?_map,h];rfl
def hit0 (x m:Nat):Bool:=decide (m &&& x = 0)
theorem idxF_ok (ms:List Nat) (c:Option Nat) (x:Nat) (hm:∀ m ∈ ms,m < 18446744073709551616) (hl:ms.length < 1000000) :
 ∃ r:AV × Heap,(∃ i:Int,r = (.int .i64 i,[some (.row 1 [bR x])]) ∧ (decide (0 ≤ i)) = ms.any (hit0 x)) ∧ sem L.env Mf 60 [.islice (ms.map bR) c,.func (.func 35) [] [.ptr 0 0 0]] [some (.row 1 [bR x])] = some r:=by
 have hfx:FlatR [bR x]:=FlatR.cons rfl FlatR.nil
 have hmr:(ms.map bR).flatMap refsL = []:=refs_flatR (flatB ms)
 (refine svE Tryd.f60 ?_;simp only [Tryd.f60,gS])
 (repeat first|simp only [ww]|(apply xa;simp +decide only [go_sem,List.length_map];rfl;kernel_rfl))
 refine xp_lp kp60_0 (fun q F H1=>∃ i:Nat,q = ms.length - i ∧ i ≤ ms.length ∧ F = [(0,.islice (ms.map bR) c),(1,.func (.func 35) [] [.ptr 0 0 0]),(7,.int .i64 ms.length),(8,.int .i64 i)] ∧ H1 = [some (.row 1 [bR x])] ∧ (ms.take i).any (hit0 x) = false) ms.length ?_ ?_
 ·refine ⟨_,_,?_,0,rfl,Nat.zero_le _,rfl,rfl,rfl⟩
  (simp +decide only [go_sem,gcD_eq,gcIds_eq,refs_flatR hfx,renR_flat _ hfx]<;>rfl)<;>rfl
 ·rintro q F H1 ⟨i,rfl,hi,rfl,rfl,hno⟩
  by_cases hlt:i < ms.length
  ·obtain ⟨m,hmg⟩:∃ m,ms[i]? = some m:=⟨_,List.getElem?_eq_getElem hlt⟩
   have hg:(ms.map bR)[i]? = some [u64 (BitVec.ofNat 64 m)]:=by rw [List.getElem?_map,hmg];rfl
   have hmm:=hm m (List.mem_of_getElem? hmg)
   have hcl:callV L.env false (sem L.env Mf) (.func (.func 35) [] [.ptr 0 0 0]) [u64 (BitVec.ofNat 64 m)] [some (.row 1 [[u64 (BitVec.ofNat 64 x)]])] = some (.bool (decide (m &&& x = 0)),[some (.row 1 [[u64 (BitVec.ofNat 64 x)]])],[0]):=l11_call (d:=false) m x hmm
   have c1:(i:Int) < ms.length:=by omega
   have hw:=wI1 (n:=i) (by omega)
   have hta:(ms.take (i + 1)).any (hit0 x) = hit0 x m:=by rw [List.take_add_one,hmg,List.any_append,hno];simp
   by_cases hz:m &&& x = 0
   ·rw [decide_eq_true hz] at hcl
    (repeat first|simp only [ww]|(apply xa;simp +decide only [go_sem,c1,hlt,hg,hcl,List.length_map,bR];rfl;kernel_rfl))
    refine fqE_r (vs:=[.int .i64 i]) (r:=(_,_)) (by simp +decide only [go_sem]) (by simp +decide only [go_sem,finish]<;>rfl) ⟨i,rfl,?_⟩
    rw [decide_eq_true (by omega)]
    refine (List.any_eq_true.2 ⟨m,List.mem_of_getElem? hmg,?_⟩).symm
    exact decide_eq_true hz
   ·rw [decide_eq_false hz] at hcl
    (repeat first|simp only [ww]|(apply xa;simp +decide only [go_sem,c1,hlt,hg,hcl,hw,List.length_map,bR];rfl;kernel_rfl))
    refine lpJ_n (ms.length - (i + 1)) (by omega) ⟨_,_,?_,i + 1,rfl,hlt,rfl,rfl,by rw [hta];exact decide_eq_false hz⟩
    (simp +decide only [go_sem,gcD_eq,gcIds_eq,bR]<;>rfl)<;>rfl
  ·obtain rfl:i = ms.length:=by omega
   have c1:¬ (ms.length:Int) < ms.length:=by omega
   rw [List.take_length] at hno
   (repeat first|simp only [ww]|(apply xa;simp +decide only [go_sem,c1,bR];rfl;kernel_rfl))
   refine fqE_n (vs:=[.int .i64 (-1)]) (r:=(_,_)) (by simp +decide only [go_sem]) (by simp +decide only [go_sem,finish]<;>rfl) ⟨-1,rfl,?_⟩
   rw [hno];rfl
theorem conF_ok (ms:List Nat) (c:Option Nat) (x:Nat) (hm:∀ m ∈ ms,m < 18446744073709551616) (hl:ms.length < 1000000) :
 sem L.env Mf 34 [.islice (ms.map bR) c,.func (.func 35) [] [.ptr 0 0 0]] [some (.row 1 [bR x])] = some (.bool (ms.any (hit0 x)),[some (.row 1 [bR x])]):=by
 obtain ⟨r,⟨i,rfl,hi⟩,h⟩:=idxF_ok ms c x hm hl
 have hmr:(ms.map bR).flatMap refsL = []:=refs_flatR (flatB ms)
 have hc:=callV_one (E:=L.env) (draw:=false) (call:=sem L.env Mf) (g:=60) (fs:=[]) (cs:=[]) (ar:=[.islice (ms.map bR) c,.func (.func 35) [] [.ptr 0 0 0]]) (H:=[some (.row 1 [bR x])]) (b:=0) (by kernel_rfl) (by kernel_rfl) rfl rfl rfl (FlatO.row (FlatR.cons rfl FlatR.nil)) rfl rfl h rfl
 rw [← hi]
 simp only [show bR x = [u64 (BitVec.ofNat 64 x)] from rfl] at hc ⊢
 (refine sv Tryd.f34 ?_;simp only [Tryd.f34,gS])
 (repeat first|simp only [ww]|(apply xa;simp +decide only [go_sem,hc];rfl;kernel_rfl))
 (apply fqb;simp +decide only [go_sem]<;>rfl)
theorem l1_ok (ms:List Nat) (c:Option Nat) (x:Nat) (hm:∀ m ∈ ms,m < 18446744073709551616) (hl:ms.length < 1000000) :
 sem L.env Mf 33 [u64 (BitVec.ofNat 64 x),.iptr [.islice (ms.map bR) c]] [] = some (.bool (!ms.any (hit0 x)),[]):=by
 have h:=conF_ok ms c x hm hl
 have hc:=callV_one (E:=L.env) (draw:=false) (call:=sem L.env Mf) (g:=34) (fs:=[]) (cs:=[]) (ar:=[.islice (ms.map bR) c,.func (.func 35) [] [.ptr 0 0 0]]) (H:=[some (.row 1 [bR x])]) (b:=0) (by kernel_rfl) (by kernel_rfl) rfl rfl rfl (FlatO.row (FlatR.cons rfl FlatR.nil)) rfl rfl h rfl
 simp only [show bR x = [u64 (BitVec.ofNat 64 x)] from rfl] at hc
 (refine sv Tryd.f33 ?_;simp only [Tryd.f33,gS])
 (repeat first|simp only [ww]|(apply xa;simp +decide only [go_sem,hc];rfl;kernel_rfl))
 (apply fqb;simp +decide only [go_sem]<;>rfl)
theorem l1_call {d:Bool} (H:Heap) (ms:List Nat) (c:Option Nat) (x:Nat) (hm:∀ m ∈ ms,m < 18446744073709551616) (hl:ms.length < 1000000) :
 callV L.env d (sem L.env Mf) (.func (.func 33) [] [.iptr [.islice (ms.map bR) c]]) [u64 (BitVec.ofNat 64 x)] H = some (.bool (!ms.any (hit0 x)),H,[]):=
 callV_flat (by kernel_rfl) (by kernel_rfl) rfl (by rfl) (l1_ok ms c x hm hl) rfl
theorem l2_ok (x y:Nat) (hx:x < 256) (hy:y < 256):sem L.env Mf 36 [u64 (BitVec.ofNat 64 x),u64 (BitVec.ofNat 64 y)] [] = some (.bool (befN x y),[]):=by
 have h1:=fun H=>pop_call (d:=false) H x hx
 have h2:=fun H=>pop_call (d:=false) H y hy
 have hxy:x ^^^ y < 256:=Nat.xor_lt_two_pow (n:=8) hx hy
 have h3:=fun H=>tz_call (d:=false) H (x ^^^ y) hxy
 have e1:=b_inj (a:=x) (b:=y) (by omega) (by omega)
 have e0:((tzN (x ^^^ y):Int) < 0) = False:=eq_false (by omega)
 have e2:=b_shr (a:=x) (b:=tzN (x ^^^ y)) (by omega)
 have e3:=b_one (a:=x / 2 ^ tzN (x ^^^ y))
 have e4:=b_inj (a:=x / 2 ^ tzN (x ^^^ y) % 2) (b:=1) (by omega) (by omega)
 unfold befN
 by_cases c1:popN x < popN y
 ·have d1:(popN x:Int) < popN y:=by omega
  rw [decide_eq_true c1]
  (refine sv Tryd.f36 ?_;simp only [Tryd.f36,gS])
  (repeat first|simp only [ww]|(apply xa;simp +decide only [go_sem,h1,h2,d1];rfl;kernel_rfl))
  (apply fqb;simp +decide only [go_sem]<;>rfl)
 ·have d1:¬ (popN x:Int) < popN y:=by omega
  rw [decide_eq_false c1]
  by_cases c2:popN x = popN y
  ·have d2:((popN x:Int) = popN y) = True:=eq_true (by omega)
   rw [decide_eq_true c2]
   by_cases c3:x = y
   ·subst c3
    rw [decide_eq_true (rfl:x = x)]
    (refine sv Tryd.f36 ?_;simp only [Tryd.f36,gS])
    (repeat first|simp only [ww]|(apply xa;simp +decide only [go_sem,h1,d1,b_neq];rfl;kernel_rfl))
    (apply fqb;simp +decide only [go_sem]<;>rfl)
   ·rw [decide_eq_false c3]
    (refine sv Tryd.f36 ?_;simp only [Tryd.f36,gS])
    (repeat first|simp only [ww]|(apply xa;simp +decide only [go_sem,h1,h2,d1,d2,e1,c3,b_neq,bi1,b_xor,h3,e0,Int.toNat_natCast,e2,e3,e4];rfl;kernel_rfl))
    (apply fqb;simp +decide only [go_sem]<;>rfl)
  ·have d2:¬ (popN x:Int) = popN y:=by omega
   rw [decide_eq_false c2]
   (refine sv Tryd.f36 ?_;simp only [Tryd.f36,gS])
   (repeat first|simp only [ww]|(apply xa;simp +decide only [go_sem,h1,h2,d1,d2];rfl;kernel_rfl))
   (apply fqb;simp +decide only [go_sem]<;>rfl)
theorem l2_call {d:Bool} (H:Heap) (x y:Nat) (hx:x < 256) (hy:y < 256):callV L.env d (sem L.env Mf) (.func (.func 36) [] []) [u64 (BitVec.ofNat 64 x),u64 (BitVec.ofNat 64 y)] H = some (.bool (befN x y),H,[]):=
 callV_flat (by kernel_rfl) (by kernel_rfl) rfl rfl (l2_ok x y hx hy) rfl
/-- slices.Contains over a block. -/
theorem idx_ok (ms:List Nat) (c:Option Nat) (rest:List (List AV)) (hrest:FlatR rest) (x:Nat) (hx:x < 18446744073709551616) (hm:∀ m ∈ ms,m < 18446744073709551616) (hl:ms.length < 1000000) :
 ∃ r:AV × Heap,(∃ i:Int,r = (.int .i64 i,[some (.row 1 (ms.map bR ++ rest))]) ∧ (decide (0 ≤ i)) = ms.contains x) ∧ sem L.env Mf 59 [.slice 0 0 ms.length c,u64 (BitVec.ofNat 64 x)] [some (.row 1 (ms.map bR ++ rest))] = some r:=by
 have hfl:=(flatB ms).append hrest
 have h0:=refs_flatR hfl
 have h1:=fun π=>renR_flat π hfl
 have hle:ms.length ≤ (ms.map bR ++ rest).length:=by simp
 have hg:∀ i m,ms[i]? = some m → (ms.map bR ++ rest)[i]? = some (bR m):=fun i m h=>bR_get h
 generalize ms.map bR ++ rest = R at h0 h1 hle hg ⊢
 (refine svE Tryd.f59 ?_;simp only [Tryd.f59,gS])
 (repeat first|simp only [ww]|(apply xa;simp +decide only [go_sem];rfl;kernel_rfl))
 refine xp_lp kp59_0 (fun q F H1=>∃ i:Nat,q = ms.length - i ∧ i ≤ ms.length ∧ F = [(0,.slice 0 0 ms.length c),(1,u64 (BitVec.ofNat 64 x)),(7,.int .i64 ms.length),(8,.int .i64 i)] ∧ H1 = [some (.row 1 R)] ∧ (ms.take i).contains x = false) ms.length ?_ ?_
 ·refine ⟨_,_,?_,0,rfl,Nat.zero_le _,rfl,rfl,rfl⟩
  (simp +decide only [go_sem,gcD_eq,gcIds_eq,h0,h1]<;>rfl)<;>rfl
 ·rintro q F H1 ⟨i,rfl,hi,rfl,rfl,hno⟩
  by_cases hlt:i < ms.length
  ·obtain ⟨m,hmg⟩:∃ m,ms[i]? = some m:=⟨_,List.getElem?_eq_getElem hlt⟩
   have hgm:=hg i m hmg
   have hmm:=hm m (List.mem_of_getElem? hmg)
   have he:=b_inj (a:=x) (b:=m) hx hmm
   have c1:(i:Int) < ms.length:=by omega
   have hw:=wI1 (n:=i) (by omega)
   have hta:(ms.take (i + 1)).contains x = decide (x = m):=by
    rw [List.take_add_one,hmg]
    rw [Bool.eq_iff_iff,List.contains_iff_mem,decide_eq_true_eq,List.mem_append]
    have:x ∉ ms.take i:=fun h=>by rw [List.contains_iff_mem.2 h] at hno;cases hno
    simp [this]
   unfold bR at hgm
   by_cases hz:x = m
   ·(repeat first|simp only [ww]|(apply xa;simp +decide only [go_sem,c1,hlt,hle,hgm,he,hz];rfl;kernel_rfl))
    refine fqE_r (vs:=[.int .i64 i]) (r:=(_,_)) (by simp +decide only [go_sem]) (by simp +decide only [go_sem,finish,h1]<;>rfl) ⟨i,rfl,?_⟩
    rw [decide_eq_true (by omega)]
    exact (List.contains_iff_mem.2 (hz ▸ List.mem_of_getElem? hmg)).symm
   ·(repeat first|simp only [ww]|(apply xa;simp +decide only [go_sem,c1,hlt,hle,hgm,he,hz,hw];rfl;kernel_rfl))
    refine lpJ_n (ms.length - (i + 1)) (by omega) ⟨_,_,?_,i + 1,rfl,hlt,rfl,rfl,by rw [hta];exact decide_eq_false hz⟩
    (simp +decide only [go_sem,gcD_eq,gcIds_eq,h0,h1]<;>rfl)<;>rfl
  ·obtain rfl:i = ms.length:=by omega
   have c1:¬ (ms.length:Int) < ms.length:=by omega
   rw [List.take_length] at hno
   (repeat first|simp only [ww]|(apply xa;simp +decide only [go_sem,c1];rfl;kernel_rfl))
   refine fqE_n (vs:=[.int .i64 (-1)]) (r:=(_,_)) (by simp +decide only [go_sem]) (by simp +decide only [go_sem,finish,h1]<;>rfl) ⟨-1,rfl,?_⟩
   rw [hno];rfl
theorem con_ok (ms:List Nat) (c:Option Nat) (rest:List (List AV)) (hrest:FlatR rest) (x:Nat) (hx:x < 18446744073709551616) (hm:∀ m ∈ ms,m < 18446744073709551616) (hl:ms.length < 1000000) :
 sem L.env Mf 32 [.slice 0 0 ms.length c,u64 (BitVec.ofNat 64 x)] [some (.row 1 (ms.map bR ++ rest))] = some (.bool (ms.contains x),[some (.row 1 (ms.map bR ++ rest))]):=by
 obtain ⟨r,⟨i,rfl,hi⟩,h⟩:=idx_ok ms c rest hrest x hx hm hl
 have hfl:=(flatB ms).append hrest
 have h1:=fun π=>renR_flat π hfl
 have hc:=callV_one (E:=L.env) (draw:=false) (call:=sem L.env Mf) (g:=59) (fs:=[]) (cs:=[]) (ar:=[.slice 0 0 ms.length c,u64 (BitVec.ofNat 64 x)]) (H:=[some (.row 1 (ms.map bR ++ rest))]) (b:=0) (by kernel_rfl) (by kernel_rfl) rfl rfl (refsO_flat hfl) (FlatO.row hfl) rfl (args':=[.slice 0 0 ms.length c,u64 (BitVec.ofNat 64 x)]) rfl h rfl
 rw [← hi]
 generalize ms.map bR ++ rest = R at *
 (refine sv Tryd.f32 ?_;simp only [Tryd.f32,gS])
 (repeat first|simp only [ww]|(apply xa;simp +decide only [go_sem,hc];rfl;kernel_rfl))
 (apply fqb;simp +decide only [go_sem,h1]<;>rfl)
theorem con_call {d:Bool} {H:Heap} {b:Nat} {ms:List Nat} {c:Option Nat} {rest:List (List AV)} (hrest:FlatR rest) {x:Nat} (hx:x < 18446744073709551616) (hm:∀ m ∈ ms,m < 18446744073709551616) (hl:ms.length < 1000000) (hb:HeapF H b = some (.row 1 (ms.map bR ++ rest))) :
 callV L.env d (sem L.env Mf) (.func (.func 32) [] []) [.slice b 0 ms.length c,u64 (BitVec.ofNat 64 x)] H = some (.bool (ms.contains x),H,[b]):=
 callV_one (fs:=[]) (cs:=[]) (args:=[.slice b 0 ms.length c,u64 (BitVec.ofNat 64 x)]) (b:=b) (by kernel_rfl) (by kernel_rfl) rfl hb (refsO_flat ((flatB ms).append hrest)) (FlatO.row ((flatB ms).append hrest)) rfl (args':=[.slice 0 0 ms.length c,u64 (BitVec.ofNat 64 x)]) (by simp only [List.map_cons,List.map_nil,ren_slice1,ren_u64]) (con_ok ms c rest hrest x hx hm hl) rfl
theorem take_b (ms:List Nat) (rest:List (List AV)):List.take ms.length (ms.map bR ++ rest) = ms.map bR:=by
 rw [List.take_append_of_le_length (by simp),List.take_of_length_le (by simp)]
theorem drop_b (ms:List Nat) (rest:List (List AV)):List.drop (ms.length + 1) (ms.map bR ++ rest) = rest.drop 1:=by
 rw [List.drop_append,List.drop_of_length_le (by simp),List.nil_append]
 congr 1;simp
theorem pow8 {n:Nat} (h:n ≤ 8):2 ^ n ≤ 256:=Nat.pow_le_pow_right (n:=2) (by omega) h
theorem least_ok {tb:List (List Nat)} {n:Nat} {A:AV} (h:Tab tb n A) (hn8:n ≤ 8):sem L.env Mf 10 [A,.int .i64 n] [] = some (.tuple [lsV (bitsN (lbest tb n (2 ^ n)) n),.int .i64 0],[]):=by
 have hs:=h.small
 have hrw:=h.rows
 have hva:=h.valid (d:=false) []
 have hlen:=tb_len h.val
 have hAr:=h.val.refs
 have hAn:∀ π,ren π A = A:=fun π=>ren_flat π A hAr
 have hAf:∀ b d,frzV 0 b d A = some A:=fun b d=>frzV_flat _ _ d A hAr
 have hp:=pow8 hn8
 have c16:¬ (16:Int) < n:=by omega
 suffices hs:∃ r:AV × Heap,(r = (.tuple [lsV (bitsN (lbest tb n (2 ^ n)) n),.int .i64 0],[])) ∧ sem L.env Mf 10 [A,.int .i64 n] [] = some r by
  obtain ⟨r,rfl,h3⟩:=hs
  exact h3
 have hmk:∀ i,∀ m ∈ mkM tb i,m < 18446744073709551616:=by
  intro i m hm
  obtain ⟨j,hj,_,rfl⟩:=(mkM_mem _ _ _).1 hm
  have:maskN (rowAt' tb j) < 2 ^ n:=maskN_lt fun t ht=>by
   unfold rowAt' at ht
   rw [List.getD_eq_getElem?_getD] at ht
   cases hh:tb[j]? with
   | none=>rw [hh] at ht;cases ht
   | some r=>rw [hh] at ht;exact h.lt r (List.mem_of_getElem? hh) t ht
  omega
 have hrm:tb.length ≤ 1000000000:=by omega
 have hmk0:mkOk L.env 61 0 (tb.length:Int) = true:=by
  have:=mkOk_nat (E:=L.env) (e:=61) (m:=tb.length) (by omega) (by decide +kernel)
  unfold mkOk at this ⊢
  simp only [Bool.and_eq_true,decide_eq_true_eq] at this ⊢
  omega
 (refine svE Tryd.f10 ?_;simp only [Tryd.f10,gS])
 (repeat first|simp only [ww]|(apply xa;simp +decide only [go_sem,hva,c16,hlen,hrm,hmk0];rfl;kernel_rfl))
 refine xp_lpZ kp10_0 rfl (fun q F H1=>∃ (i:Nat) (rest:List (List AV)),q = tb.length - i ∧ i ≤ tb.length ∧ F = [(1,.int .i64 n),(7,.ptr 0 0 0),(30,A),(31,.int .i64 tb.length),(32,.int .i64 i),(1000000,.junk)] ∧
  H1 = [some (.row 1 [[.slice 1 0 (mkM tb i).length (some tb.length)]]),some (.row 1 ((mkM tb i).map bR ++ rest))] ∧ FlatR rest ∧ (mkM tb i).length + rest.length = tb.length) tb.length ?_ ?_
 ·have hfz:FlatR (List.replicate tb.length [u64 (BitVec.ofInt 64 0)]):=fun r hr=>by rw [(List.mem_replicate.1 hr).2];rfl
  refine ⟨_,_,?_,0,List.replicate tb.length [u64 (BitVec.ofInt 64 0)],rfl,Nat.zero_le _,rfl,rfl,hfz,by simp [mkM]⟩
  (simp +decide only [go_sem,gcD_eq,gcIds_eq,hAr,hAn,refs_flatR hfz,renR_flat _ hfz]<;>rfl)<;>rfl
 ·rintro q F H1 ⟨i,rest,rfl,hi,rfl,rfl,hrest,hlr⟩
  have hfl:=(flatB (mkM tb i)).append hrest
  have hf0:=refs_flatR hfl
  have hf1:=fun π=>renR_flat π hfl
  by_cases hlt:i < tb.length
  ·obtain ⟨r,hrr⟩:∃ r,tb[i]? = some r:=⟨_,List.getElem?_eq_getElem hlt⟩
   have hp12:=fun H=>tb_get h.val (HeapF H) hrr
   obtain ⟨p,W,hp1,hp2,hW⟩:=hp12 [some (.row 1 [[.slice 1 0 (mkM tb i).length (some tb.length)]]),some (.row 1 ((mkM tb i).map bR ++ rest))]
   have hwl:=rv_len hW
   have hWr:=hW.refs
   have hWn:∀ π,ren π W = W:=fun π=>ren_flat π W hWr
   have hrm2:=List.mem_of_getElem? hrr
   have hrl:=hs.2 r hrm2
   have hrow:=row_at hrr
   have hmi:=hmk i
   have hmk1:mkM tb (i + 1) = if decide (0 < maskN r) && !(mkM tb i).contains (maskN r) then mkM tb i ++ [maskN r] else mkM tb i:=by
    simp only [mkM];rw [hrow]
   have hml:maskN r < 18446744073709551616:=by have:=maskN_lt (h.lt r hrm2);omega
   have hkl:=mkM_len tb i
   have c1:(i:Int) < tb.length:=by omega
   have hw:=wI1 (n:=i) (by omega)
   generalize mkM tb i = ms at hfl hf0 hf1 hp1 hp2 hmi hmk1 hlr hkl ⊢
   (repeat first|simp only [ww]|(apply xa;simp +decide only [go_sem,c1,hp1,hp2,hwl];rfl;kernel_rfl))
   refine xp_lp kp10_2 (fun q F H1=>∃ (j:Nat),q = r.length - j ∧ j ≤ r.length ∧ F = [(1,.int .i64 n),(7,.ptr 0 0 0),(10,u64 (BitVec.ofNat 64 (maskN (r.take j)))),(30,A),(31,.int .i64 tb.length),(32,.int .i64 i),(36,W),(37,.int .i64 r.length),(38,.int .i64 j)] ∧
    H1 = [some (.row 1 [[.slice 1 0 ms.length (some tb.length)]]),some (.row 1 (ms.map bR ++ rest))]) r.length ?_ ?_
   ·refine ⟨_,_,?_,0,rfl,Nat.zero_le _,rfl,rfl⟩
    (simp +decide only [go_sem,gcD_eq,gcIds_eq,hAr,hAn,hWr,hWn,hf0,hf1,bi0]<;>rfl)<;>rfl
   ·rintro q F H1 ⟨j,rfl,hj,rfl,rfl⟩
    by_cases hjl:j < r.length
    ·obtain ⟨v,hv⟩:∃ v,r[j]? = some v:=⟨_,List.getElem?_eq_getElem hjl⟩
     obtain ⟨p2,hq1,hq2⟩:=rv_get hW (HeapF [some (.row 1 [[.slice 1 0 ms.length (some tb.length)]]),some (.row 1 (ms.map bR ++ rest))]) hv
     have hvn:v < n:=h.lt r hrm2 v (List.mem_of_getElem? hv)
     have c2:(j:Int) < r.length:=by omega
     have hw2:=wI1 (n:=j) (by omega)
     have hsh:=b_shl (a:=v) (by omega)
     have hor:=b_or (a:=maskN (r.take j)) (b:=2 ^ v)
     have hsn:maskN (r.take (j + 1)) = maskN (r.take j) ||| 2 ^ v:=by
      rw [List.take_add_one,hv];exact maskN_snoc _ _
     have hv0:((v:Int) < 0) = False:=eq_false (by omega)
     (repeat first|simp only [ww]|(apply xa;simp +decide only [go_sem,c2,hq1,hq2,hw2,hv0,bi1,Int.toNat_natCast,hsh,hor];rfl;kernel_rfl))
     refine lpJ_n (r.length - (j + 1)) (by omega) ⟨_,_,?_,j + 1,rfl,hjl,rfl,rfl⟩
     rw [hsn]
     (simp +decide only [go_sem,gcD_eq,gcIds_eq,hAr,hAn,hWr,hWn,hf0,hf1]<;>rfl)<;>rfl
    ·obtain rfl:j = r.length:=by omega
     have c2:¬ (r.length:Int) < r.length:=by omega
     rw [List.take_length]
     have hgt:∀ t c,abin L.env .gtr t (u64 (BitVec.ofNat 64 (maskN r))) (u64 (BitVec.ofNat 64 0)) c = some (.bool (decide (0 < maskN r))):=fun t c=>b_gtr hml (by omega)
     have hco:=con_call (d:=false) (H:=[some (.row 1 [[.slice 1 0 ms.length (some tb.length)]]),some (.row 1 (ms.map bR ++ rest))]) (b:=1) (c:=some tb.length) hrest hml hmi (by omega) rfl
     by_cases h0:0 < maskN r
     ·rw [decide_eq_true h0,Bool.true_and] at hmk1
      rw [decide_eq_true h0] at hgt
      by_cases hc0:ms.contains (maskN r) = true
      ·rw [hc0] at hco hmk1
       (repeat first|simp only [ww]|(apply xa;simp +decide only [go_sem,c2,hw,bi0,hgt,hco];rfl;kernel_rfl))
       refine lpJ_n (tb.length - (i + 1)) (by omega) ⟨_,_,?_,i + 1,rest,rfl,hlt,rfl,rfl,hrest,by rw [hmk1];exact hlr⟩
       rw [hmk1]
       (simp +decide only [go_sem,gcD_eq,gcIds_eq,hAr,hAn,hf0,hf1]<;>rfl)<;>rfl
      ·have hc0:ms.contains (maskN r) = false:=by simpa using hc0
       rw [hc0] at hco hmk1
       have hd1:ms.length + 1 ≤ tb.length:=by omega
       have hd2:ms.length + 1 ≤ ms.length + rest.length:=by omega
       have hd3:ms.length ≤ ms.length + rest.length:=by omega
       have ht1:=take_b ms rest
       have ht2:=drop_b ms rest
       have hrest2:FlatR (rest.drop 1):=fun r hr=>hrest r (List.mem_of_mem_drop hr)
       have hfl2:=(flatB (ms ++ [maskN r])).append hrest2
       have hg0:=refs_flatR hfl2
       have hg1:=fun π=>renR_flat π hfl2
       have hmk1:mkM tb (i + 1) = ms ++ [maskN r]:=by rw [hmk1];rfl
       simp only [List.map_append,List.map_cons,List.map_nil,List.append_assoc,List.cons_append,List.nil_append,bR] at hg0 hg1
       (repeat first|simp only [ww]|(apply xa;simp +decide only [go_sem,c2,hw,bi0,hgt,hco,hd1,hd2,hd3,ht1,ht2];rfl;kernel_rfl))
       refine lpJ_n (tb.length - (i + 1)) (by omega) ⟨_,_,?_,i + 1,rest.drop 1,rfl,hlt,rfl,rfl,hrest2,by rw [hmk1];simp;omega⟩
       rw [hmk1]
       (simp +decide only [go_sem,gcD_eq,gcIds_eq,hAr,hAn,hg0,hg1,renR_flat _ (flatB ms),renR_flat _ hrest2,List.map_append,List.map_cons,List.map_nil,List.append_assoc,List.cons_append,List.nil_append,bR,List.length_append,List.length_cons,List.length_nil]<;>rfl)<;>rfl
     ·rw [decide_eq_false h0,Bool.false_and] at hmk1
      rw [decide_eq_false h0] at hgt
      (repeat first|simp only [ww]|(apply xa;simp +decide only [go_sem,c2,hw,bi0,hgt];rfl;kernel_rfl))
      refine lpJ_n (tb.length - (i + 1)) (by omega) ⟨_,_,?_,i + 1,rest,rfl,hlt,rfl,rfl,hrest,by rw [hmk1];exact hlr⟩
      rw [hmk1]
      (simp +decide only [go_sem,gcD_eq,gcIds_eq,hAr,hAn,hf0,hf1]<;>rfl)<;>rfl
  ·obtain rfl:i = tb.length:=by omega
   have c1:¬ (tb.length:Int) < tb.length:=by omega
   have hcv:∀ x,(!(mkM tb tb.length).any (hit0 x)) = covL tb (bitsN x n):=fun x=>cvM_eq h.lt
   have hl1:=fun x=>l1_call (d:=false) [] (mkM tb tb.length) (some tb.length) x (hmk _) (by have:=mkM_len tb tb.length;omega)
   have hkl:=mkM_len tb tb.length
   generalize mkM tb tb.length = ms at hfl hf0 hf1 hcv hl1 hkl hlr ⊢
   have ht1:=take_b ms rest
   have hfz:=frzR_flat (m:=0) (d:=frzD (HeapF [some (.row 1 [[.slice 1 0 ms.length (some tb.length)]]),some (.row 1 (ms.map bR ++ rest))]) 0 10) (flatB ms)
   have hd3:ms.length ≤ ms.length + rest.length:=by omega
   (repeat first|simp only [ww]|(apply xa;simp +decide only [go_sem,c1];rfl;kernel_rfl))
   rw [fz_rw]
   simp +decide only [go_sem,hAf,ht1,hfz,hd3]
   have hb1:=b_shl (a:=n) (by omega)
   have hb2:BitVec.ofNat 64 (2 ^ n) - 1#64 = BitVec.ofNat 64 (2 ^ n - 1):=by
    have:=Nat.two_pow_pos n
    apply BitVec.eq_of_toNat_eq
    rw [BitVec.toNat_sub,bv_nat (a:=2 ^ n) (by omega),bv_nat (a:=1) (by omega),bv_nat (a:=2 ^ n - 1) (by omega)]
    omega
   have hn0:((n:Int) < 0) = False:=eq_false (by omega)
   have hl2:=fun x y hx hy=>l2_call (d:=false) [] x y hx hy
   generalize hCF:AV.func (.func 33) [] [.iptr [.islice (ms.map bR) (some tb.length)]] = CF at hl1
   have hCFr:refs CF = []:=by rw [← hCF];rfl
   have hCFn:∀ π,ren π CF = CF:=fun π=>ren_flat π CF hCFr
   (repeat first|simp only [ww]|(apply xa;simp +decide only [go_sem,hn0,bi1,bi0,Int.toNat_natCast,hb1,hb2,hCF];rfl;kernel_rfl))
   refine xp_lp kp10_4 (fun q F H1=>∃ (k:Nat),q = 2 ^ n - k ∧ k ≤ 2 ^ n ∧ F = [(1,.int .i64 n),(13,CF),(14,.func (.func 36) [] []),(15,u64 (BitVec.ofNat 64 (lbest tb n k))),(65,u64 (BitVec.ofNat 64 (2 ^ n))),(66,u64 (BitVec.ofNat 64 k))] ∧ H1 = []) (2 ^ n) ?_ ?_
   ·refine ⟨_,_,?_,0,rfl,Nat.zero_le _,rfl,rfl⟩
    (simp +decide only [go_sem,gcD_eq,gcIds_eq,hCF,hCFr,hCFn,lbest]<;>rfl)<;>rfl
   ·rintro q F H1 ⟨k,rfl,hk,rfl,rfl⟩
    have hls:∀ t c,abin L.env .lss t (u64 (BitVec.ofNat 64 k)) (u64 (BitVec.ofNat 64 (2 ^ n))) c = some (.bool (decide (k < 2 ^ n))):=fun t c=>b_lss (by omega) (by omega)
    have hbl:=lbest_lt tb n k hk
    by_cases hlt:k < 2 ^ n
    ·rw [decide_eq_true hlt] at hls
     have hl1:=hl1 k
     rw [hcv] at hl1
     have hl2:=hl2 k (lbest tb n k) (by omega) (by omega)
     have hst:lbest tb n (k + 1) = if covL tb (bitsN k n) && befN k (lbest tb n k) then k else lbest tb n k:=rfl
     have hb3:=b_add1 (a:=k)
     by_cases e1:covL tb (bitsN k n) = true
     ·rw [e1] at hl1 hst
      rw [Bool.true_and] at hst
      by_cases e2:befN k (lbest tb n k) = true
      ·rw [e2] at hl2 hst
       rw [if_pos rfl] at hst
       (repeat first|simp only [ww]|(apply xa;simp +decide only [go_sem,hls,hl1,hl2,bi1,hb3];rfl;kernel_rfl))
       refine lpJ_n (2 ^ n - (k + 1)) (by omega) ⟨_,_,?_,k + 1,rfl,hlt,rfl,rfl⟩
       rw [hst]
       (simp +decide only [go_sem,gcD_eq,gcIds_eq,hCFr,hCFn]<;>rfl)<;>rfl
      ·have e2:befN k (lbest tb n k) = false:=by simpa using e2
       rw [e2] at hl2 hst
       rw [if_neg (by decide)] at hst
       (repeat first|simp only [ww]|(apply xa;simp +decide only [go_sem,hls,hl1,hl2,bi1,hb3];rfl;kernel_rfl))
       refine lpJ_n (2 ^ n - (k + 1)) (by omega) ⟨_,_,?_,k + 1,rfl,hlt,rfl,rfl⟩
       rw [hst]
       (simp +decide only [go_sem,gcD_eq,gcIds_eq,hCFr,hCFn]<;>rfl)<;>rfl
     ·have e1:covL tb (bitsN k n) = false:=by simpa using e1
      rw [e1] at hl1 hst
      rw [Bool.false_and,if_neg (by decide)] at hst
      (repeat first|simp only [ww]|(apply xa;simp +decide only [go_sem,hls,hl1,bi1,hb3];rfl;kernel_rfl))
      refine lpJ_n (2 ^ n - (k + 1)) (by omega) ⟨_,_,?_,k + 1,rfl,hlt,rfl,rfl⟩
      rw [hst]
      (simp +decide only [go_sem,gcD_eq,gcIds_eq,hCFr,hCFn]<;>rfl)<;>rfl
    ·obtain rfl:k = 2 ^ n:=by omega
     rw [decide_eq_false hlt] at hls
     generalize lbest tb n (2 ^ n) = best at hbl ⊢
     (repeat first|simp only [ww]|(apply xa;simp +decide only [go_sem,hls];rfl;kernel_rfl))
     refine xp_lp kp10_6 (fun q F H1=>∃ (t:Nat) (o:List Nat),q = n - t ∧ t ≤ n ∧ o = bitsN best t ∧ F = [(15,u64 (BitVec.ofNat 64 best)),(17,grV 0 (o.map intR)),(80,.int .i64 n),(81,.int .i64 t)] ∧ H1 = grH 1 (o.map intR)) n ?_ ?_
     ·refine ⟨_,_,?_,0,[],rfl,Nat.zero_le _,rfl,rfl,rfl⟩
      (simp +decide only [go_sem,gcD_eq,gcIds_eq]<;>rfl)<;>rfl
     ·rintro q F H1 ⟨t,o,rfl,ht,ho,rfl,rfl⟩
      have hol:o.length ≤ t:=by rw [ho];exact bitsN_len _ _
      by_cases htl:t < n
      ·have c3:(t:Int) < n:=by omega
       have hw3:=wI1 (n:=t) (by omega)
       have ht0:((t:Int) < 0) = False:=eq_false (by omega)
       have e2:=b_shr (a:=best) (b:=t) (by omega)
       have e3:=b_one (a:=best / 2 ^ t)
       have e4:=b_inj (a:=best / 2 ^ t % 2) (b:=1) (by omega) (by omega)
       have hst:bitsN best (t + 1) = bitsN best t ++ if best / 2 ^ t % 2 = 1 then [t] else []:=by
        unfold bitsN
        rw [List.range_succ,List.filter_append]
        congr 1
        by_cases h:best / 2 ^ t % 2 = 1<;>simp [h]
       rw [← ho] at hst
       by_cases hb:best / 2 ^ t % 2 = 1
       ·rw [if_pos hb] at hst
        cases o with
        | nil=>
         simp only [List.map_nil,grV_nil,grH_nil]
         (repeat first|simp only [ww]|(apply xa;simp +decide only [go_sem,c3,ht0,Int.toNat_natCast,e2,bi1,e3,e4,hb,hw3];rfl;kernel_rfl))
         refine lpJ_n (n - (t + 1)) (by omega) ⟨_,_,?_,t + 1,[t],rfl,htl,hst.symm,rfl,rfl⟩
         (simp +decide only [go_sem,gcD_eq,gcIds_eq,List.map_nil,List.map_cons,grV_cons,grH_cons,List.length_nil]<;>rfl)<;>rfl
        | cons a r=>
         have hrm3:r.length + 1 + 1 ≤ 1000000000:=by simp only [List.length_cons] at hol;omega
         simp only [List.map_cons,grV_cons,grH_cons,List.length_map]
         (repeat first|simp only [ww]|(apply xa;simp +decide only [go_sem,c3,ht0,Int.toNat_natCast,e2,bi1,e3,e4,hb,hw3,hrm3];rfl;kernel_rfl))
         refine lpJ_n (n - (t + 1)) (by omega) ⟨_,_,?_,t + 1,a :: r ++ [t],rfl,htl,hst.symm,rfl,rfl⟩
         (simp +decide only [go_sem,gcD_eq,gcIds_eq,List.cons_append,List.map_cons,List.map_append,List.map_nil,grV_cons,grH_cons,refsI,renI,List.length_cons,List.length_map,List.length_append,List.length_nil]<;>rfl)<;>rfl
       ·rw [if_neg hb,List.append_nil] at hst
        cases o with
        | nil=>
         simp only [List.map_nil,grV_nil,grH_nil]
         (repeat first|simp only [ww]|(apply xa;simp +decide only [go_sem,c3,ht0,Int.toNat_natCast,e2,bi1,e3,e4,hb,hw3];rfl;kernel_rfl))
         refine lpJ_n (n - (t + 1)) (by omega) ⟨_,_,?_,t + 1,[],rfl,htl,hst.symm,rfl,rfl⟩
         (simp +decide only [go_sem,gcD_eq,gcIds_eq,List.map_nil,grV_nil,grH_nil]<;>rfl)<;>rfl
        | cons a r=>
         simp only [List.map_cons,grV_cons,grH_cons,List.length_map]
         (repeat first|simp only [ww]|(apply xa;simp +decide only [go_sem,c3,ht0,Int.toNat_natCast,e2,bi1,e3,e4,hb,hw3];rfl;kernel_rfl))
         refine lpJ_n (n - (t + 1)) (by omega) ⟨_,_,?_,t + 1,a :: r,rfl,htl,hst.symm,rfl,rfl⟩
         (simp +decide only [go_sem,gcD_eq,gcIds_eq,List.map_cons,grV_cons,grH_cons,refsI,renI,List.length_map]<;>rfl)<;>rfl
      ·obtain rfl:t = n:=by omega
       have c3:¬ (t:Int) < t:=by omega
       rw [← ho]
       cases o with
       | nil=>
        have hcl:=fun H=>clip_callN (d:=false) H
        simp only [List.map_nil,grV_nil,grH_nil]
        (repeat first|simp only [ww]|(apply xa;simp +decide only [go_sem,c3,hcl];rfl;kernel_rfl))
        refine fqE_n (vs:=[.nilslice,.int .i64 0]) (r:=(_,_)) (by simp +decide only [go_sem]) ?_ rfl
        simp +decide only [go_sem,finish]<;>rfl
       | cons a r=>
        have hcl:=clip_call (d:=false) (H:=[some (.row 1 ((a :: r).map intR))]) (b:=0) (n:=r.length + 1) (flatI _) rfl
        simp only [List.map_cons,intR] at hcl
        simp only [List.map_cons,grV_cons,grH_cons,List.length_map]
        (repeat first|simp only [ww]|(apply xa;simp +decide only [go_sem,c3,hcl];rfl;kernel_rfl))
        refine fqE_n (vs:=[.slice 0 0 (r.length + 1) (some (r.length + 1)),.int .i64 0]) (r:=(_,_)) (by simp +decide only [go_sem]) ?_ rfl
        exact fin_ls a r 0 rfl
open Go.Proofs Go.Ax Go.Pc Go.Sort
theorem compact_nil:sem L.env Mf 40 [.nilslice] [] = some (.nilslice,[]):=by
 (refine sv Tryd.f40 ?_;simp only [Tryd.f40,gS])
 (repeat first|simp only [ww]|(apply xa;simp +decide only [go_sem];rfl;kernel_rfl))
 (apply fqb;simp +decide only [go_sem]<;>rfl)
theorem singles_succ {tb:List (List Nat)} {i:Nat} {r:List Nat} (h:tb[i]? = some r):singles (tb.take (i + 1)) = singles (tb.take i) ++ if r.length = 1 then [r.headD 0] else []:=by
 unfold singles
 rw [List.take_add_one,h,List.filter_append,List.map_append]
 congr 1
 simp only [Option.toList_some,List.filter_cons,List.filter_nil,beq_iff_eq]
 split<;>rfl
theorem singles_len (tb:List (List Nat)):(singles tb).length ≤ tb.length:=by
 unfold singles;rw [List.length_map];exact List.length_filter_le _ _
theorem intZN (l:List Nat):(l.map fun (x:Nat)=>(x:Int)).map intZ = l.map intR:=by rw [List.map_map];rfl
theorem fin_ls2 {H:Heap} {b:Nat} (a:Nat) (t:List Nat) (rest:List (List AV)) (e:Int) (hb:HeapF H b = some (.row 1 ((a :: t).map intR ++ rest))):finish false 0 (.tuple [.slice b 0 (t.length + 1) (some (t.length + 1)),.int .i64 e]) H = some (.tuple [lsV (a :: t),.int .i64 e],[]):=by
 have h1:List.take t.length (t.map intR ++ rest) = t.map intR:=by rw [List.take_append_of_le_length (by simp),List.take_of_length_le (by simp)]
 simp +decide only [go_sem,hb,List.length_cons,List.length_map,List.map_cons,List.cons_append,lsV,frzI,h1,List.length_append,Nat.add_le_add_iff_right,Nat.le_add_right]<;>rfl
theorem essential_ok {tb:List (List Nat)} {n:Nat} {A:AV} (h:Tab tb n A) (h30:tb.length ≤ 100):sem L.env Mf 11 [A,.int .i64 n] [] = some (.tuple [lsV (aloneL tb n),.int .i64 0],[]):=by
 have hs:=h.small
 have hva:=h.valid (d:=false) []
 have hlen:=tb_len h.val
 have hAr:=h.val.refs
 have hAn:∀ π,ren π A = A:=fun π=>ren_flat π A hAr
 suffices hs:∃ r:AV × Heap,(r = (.tuple [lsV (aloneL tb n),.int .i64 0],[])) ∧ sem L.env Mf 11 [A,.int .i64 n] [] = some r by
  obtain ⟨r,rfl,h3⟩:=hs
  exact h3
 (refine svE Tryd.f11 ?_;simp only [Tryd.f11,gS])
 (repeat first|simp only [ww]|(apply xa;simp +decide only [go_sem,hva,hlen];rfl;kernel_rfl))
 refine xp_lp kp11_0 (fun q F H1=>∃ (i:Nat) (o:List Nat),q = tb.length - i ∧ i ≤ tb.length ∧ o = singles (tb.take i) ∧ F = [(7,grV 0 (o.map intR)),(16,A),(17,.int .i64 tb.length),(18,.int .i64 i)] ∧ H1 = grH 1 (o.map intR)) tb.length ?_ ?_
 ·refine ⟨_,_,?_,0,[],rfl,Nat.zero_le _,rfl,rfl,rfl⟩
  (simp +decide only [go_sem,gcD_eq,gcIds_eq,hAr,hAn]<;>rfl)<;>rfl
 ·rintro q F H1 ⟨i,o,rfl,hi,ho,rfl,rfl⟩
  have hol:o.length ≤ 100:=by rw [ho];refine Nat.le_trans (singles_len _) ?_;simp;omega
  by_cases hlt:i < tb.length
  ·obtain ⟨r,hrr⟩:∃ r,tb[i]? = some r:=⟨_,List.getElem?_eq_getElem hlt⟩
   obtain ⟨p,W,hp1,hp2,hW⟩:=tb_get h.val (HeapF (grH 1 (o.map intR))) hrr
   have hwl:=rv_len hW
   have hst:=singles_succ hrr
   rw [← ho] at hst
   have c1:(i:Int) < tb.length:=by omega
   have hw:=wI1 (n:=i) (by omega)
   by_cases h1:r.length = 1
   ·rw [if_pos h1] at hst
    obtain ⟨v,rfl⟩:=List.length_eq_one_iff.1 h1
    obtain ⟨p2,hq1,hq2⟩:=rv_get hW (HeapF (grH 1 (o.map intR))) (i:=0) (v:=v) rfl
    simp only [Int.natCast_zero] at hq1
    have hc1:((List.length [v]:Nat):Int) = 1:=rfl
    cases o with
    | nil=>
     simp only [List.map_nil,grV_nil,grH_nil] at hp1 hp2 hq1 hq2 ⊢
     (repeat first|simp only [ww]|(apply xa;simp +decide only [go_sem,c1,hp1,hp2,hwl,hc1,hq1,hq2,hw,Int.natCast_zero];rfl;kernel_rfl))
     refine lpJ_n (tb.length - (i + 1)) (by omega) ⟨_,_,?_,i + 1,[v],rfl,hlt,hst.symm,rfl,rfl⟩
     (simp +decide only [go_sem,gcD_eq,gcIds_eq,hAr,hAn,List.map_nil,List.map_cons,grV_cons,grH_cons,List.length_nil]<;>rfl)<;>rfl
    | cons a t=>
     have hrm3:t.length + 1 + 1 ≤ 1000000000:=by simp only [List.length_cons] at hol;omega
     simp only [List.map_cons,grV_cons,grH_cons,List.length_map] at hp1 hp2 hq1 hq2 ⊢
     simp only [intR] at hp1 hp2 hq1 hq2
     (repeat first|simp only [ww]|(apply xa;simp +decide only [go_sem,c1,hp1,hp2,hwl,hc1,hq1,hq2,hw,hrm3,Int.natCast_zero];rfl;kernel_rfl))
     refine lpJ_n (tb.length - (i + 1)) (by omega) ⟨_,_,?_,i + 1,a :: t ++ [v],rfl,hlt,hst.symm,rfl,rfl⟩
     (simp +decide only [go_sem,gcD_eq,gcIds_eq,hAr,hAn,List.cons_append,List.map_cons,List.map_append,List.map_nil,grV_cons,grH_cons,refsI,renI,List.length_cons,List.length_map,List.length_append,List.length_nil]<;>rfl)<;>rfl
   ·rw [if_neg h1,List.append_nil] at hst
    have hc1:¬ ((r.length:Nat):Int) = 1:=by omega
    cases o with
    | nil=>
     simp only [List.map_nil,grV_nil,grH_nil] at hp1 hp2 ⊢
     (repeat first|simp only [ww]|(apply xa;simp +decide only [go_sem,c1,hp1,hp2,hwl,hc1,hw];rfl;kernel_rfl))
     refine lpJ_n (tb.length - (i + 1)) (by omega) ⟨_,_,?_,i + 1,[],rfl,hlt,hst.symm,rfl,rfl⟩
     (simp +decide only [go_sem,gcD_eq,gcIds_eq,hAr,hAn,List.map_nil,grV_nil,grH_nil]<;>rfl)<;>rfl
    | cons a t=>
     simp only [List.map_cons,grV_cons,grH_cons,List.length_map] at hp1 hp2 ⊢
     simp only [intR] at hp1 hp2
     (repeat first|simp only [ww]|(apply xa;simp +decide only [go_sem,c1,hp1,hp2,hwl,hc1,hw];rfl;kernel_rfl))
     refine lpJ_n (tb.length - (i + 1)) (by omega) ⟨_,_,?_,i + 1,a :: t,rfl,hlt,hst.symm,rfl,rfl⟩
     (simp +decide only [go_sem,gcD_eq,gcIds_eq,hAr,hAn,List.map_cons,grV_cons,grH_cons,refsI,renI,List.length_map]<;>rfl)<;>rfl
  ·obtain rfl:i = tb.length:=by omega
   have c1:¬ (tb.length:Int) < tb.length:=by omega
   rw [List.take_length] at ho
   have hdd:=alone_dd h.lt
   rw [← ho] at hdd
   cases o with
   | nil=>
    have hal:aloneL tb n = []:=by
     cases ha:aloneL tb n with
     | nil=>rfl
     | cons x l=>
      have:=congrArg List.length hdd
      rw [ha] at this
      simp [dd] at this
    rw [hal]
    have hso:=callV_flat (E:=L.env) (draw:=false) (call:=sem L.env Mf) (g:=39) (fs:=[]) (cs:=[]) (ar:=[.nilslice]) (H:=[]) (by kernel_rfl) (by kernel_rfl) rfl rfl (sort_0 none) rfl
    have hco:=callV_flat (E:=L.env) (draw:=false) (call:=sem L.env Mf) (g:=40) (fs:=[]) (cs:=[]) (ar:=[.nilslice]) (H:=[]) (by kernel_rfl) (by kernel_rfl) rfl rfl compact_nil rfl
    have hcl:=clip_callN (d:=false) []
    simp only [List.map_nil,grV_nil,grH_nil]
    (repeat first|simp only [ww]|(apply xa;simp +decide only [go_sem,c1,hso,hco,hcl];rfl;kernel_rfl))
    refine fqE_n (vs:=[.nilslice,.int .i64 0]) (r:=(_,_)) (by simp +decide only [go_sem]) ?_ rfl
    simp +decide only [go_sem,finish]<;>rfl
   | cons a t=>
    have htl:t.length + 1 ≤ 100:=by simpa using hol
    generalize hSS:(((a :: t).map fun (x:Nat)=>(x:Int)).mergeSort fun x y=>decide (x ≤ y)) = SS at hdd
    have hSl:SS.length = t.length + 1:=by rw [← hSS,List.length_mergeSort];simp
    have hso:=sort_ok (t.length + 1) none ((a :: t).map fun (x:Nat)=>(x:Int)).toArray [] FlatR.nil (by simp) (by simp only [List.length_cons] at hol;omega)
    rw [rwA_list,sortZ,List.append_nil,List.append_nil,intZN,hSS] at hso
    have hsc:=call0 (d:=false) (g:=39) (by kernel_rfl) (by kernel_rfl) (flatI _) (OneR.intz SS).flat rfl rfl rfl hso
    obtain ⟨r,⟨rest',hr',rfl⟩,hcm⟩:=compact_ok SS [] none (fun r h=>by simp at h) (by omega) (fun m h=>by cases h)
    rw [List.append_nil,hSl,hdd,intZN,List.length_map] at hcm
    have hfl2:FlatR ((aloneL tb n).map intR ++ rest'):=(flatI _).append hr'.flat
    have hcc:=call0 (d:=false) (g:=40) (by kernel_rfl) (by kernel_rfl) (OneR.intz SS).flat hfl2 rfl rfl rfl hcm
    have hcl:=clip_call (d:=false) (H:=[some (.row 1 ((aloneL tb n).map intR ++ rest'))]) (b:=0) (n:=(aloneL tb n).length) hfl2 rfl
    obtain ⟨x,l,hxl⟩:∃ x l,aloneL tb n = x :: l:=by
     cases ha:aloneL tb n with
     | nil=>
      have h1:=dd_mem SS a
      rw [hdd,ha] at h1
      have h2:(a:Int) ∈ SS:=by rw [← hSS,List.mem_mergeSort];simp
      exact absurd (h1.2 h2) (by simp)
     | cons x l=>exact ⟨x,l,rfl⟩
    rw [hxl] at hcc hcl ⊢
    simp only [List.map_cons,intR,List.length_cons,List.cons_append] at hsc hcc hcl
    simp only [List.map_cons,grV_cons,grH_cons,List.length_map]
    generalize SS.map intZ = ZZ at hsc hcc
    (repeat first|simp only [ww]|(apply xa;simp +decide only [go_sem,c1,hsc,hcc,hcl];rfl;kernel_rfl))
    refine fqE_n (vs:=[.slice 0 0 (l.length + 1) (some (l.length + 1)),.int .i64 0]) (r:=(_,_)) (by simp +decide only [go_sem]) ?_ rfl
    exact fin_ls2 x l rest' 0 rfl
theorem ishr64 {x t:Nat} (h:t ≤ 64):ishr .i64 (x:Int) (t:Int) = ((x / 2 ^ t:Nat):Int):=by
 unfold ishr
 have:min (t:Int).toNat IntKind.i64.bits = t:=by simp [IntKind.bits];omega
 rw [this,show (2:Int) ^ t = ((2 ^ t:Nat):Int) by simp]
 exact (Int.ofNat_fdiv x (2 ^ t)).symm
theorem bitsN_next (x t:Nat):bitsN x (t + 1) = bitsN x t ++ if x / 2 ^ t % 2 = 1 then [t] else []:=by
 unfold bitsN
 rw [List.range_succ,List.filter_append]
 congr 1
 by_cases h:x / 2 ^ t % 2 = 1<;>simp [h]
def slI (l:List Nat):AV:=slF none (l.map intR)
theorem slI_ne {l:List Nat} (h:l ≠ []):slI l = .islice (l.map intR) none:=by
 cases l with
 | nil=>exact absurd rfl h
 | cons a r=>rfl
theorem slI_rv (l:List Nat):RV l (slI l):=slF_rv l
theorem slI_refs (l:List Nat):refs (slI l) = []:=(slI_rv l).refs
theorem chosen_ok (x n:Nat) (hn:n ≤ 8):sem L.env Mf 13 [.int .i64 x,.int .i64 n] [] = some (slI (bitsN x n),[]):=by
 suffices hs:∃ r:AV × Heap,(r = (slI (bitsN x n),[])) ∧ sem L.env Mf 13 [.int .i64 x,.int .i64 n] [] = some r by
  obtain ⟨r,rfl,h3⟩:=hs
  exact h3
 (refine svE Tryd.f13 ?_;simp only [Tryd.f13,gS])
 (repeat first|simp only [ww]|(apply xa;simp +decide only [go_sem];rfl;kernel_rfl))
 refine xp_lp kp13_0 (fun q F H1=>∃ (t:Nat) (o:List Nat),q = n - t ∧ t ≤ n ∧ o = bitsN x t ∧ F = [(0,.int .i64 x),(1,.int .i64 n),(5,grV 0 (o.map intR)),(6,.int .i64 t)] ∧ H1 = grH 1 (o.map intR)) n ?_ ?_
 ·refine ⟨_,_,?_,0,[],rfl,Nat.zero_le _,rfl,rfl,rfl⟩
  (simp +decide only [go_sem,gcD_eq,gcIds_eq]<;>rfl)<;>rfl
 ·rintro q F H1 ⟨t,o,rfl,ht,ho,rfl,rfl⟩
  have hol:o.length ≤ t:=by rw [ho];exact bitsN_len _ _
  by_cases htl:t < n
  ·have c3:(t:Int) < n:=by omega
   have hw3:=wI1 (n:=t) (by omega)
   have ht0:((t:Int) < 0) = False:=eq_false (by omega)
   have e2:=ishr64 (x:=x) (t:=t) (by omega)
   have hst:=bitsN_next x t
   rw [← ho] at hst
   by_cases hb:x / 2 ^ t % 2 = 1
   ·rw [if_pos hb] at hst
    have hb':((x / 2 ^ t % 2:Nat):Int) = 1:=by omega
    cases o with
    | nil=>
     simp only [List.map_nil,grV_nil,grH_nil]
     (repeat first|simp only [ww]|(apply xa;simp +decide only [go_sem,c3,ht0,e2,hb',hw3];rfl;kernel_rfl))
     refine lpJ_n (n - (t + 1)) (by omega) ⟨_,_,?_,t + 1,[t],rfl,htl,hst.symm,rfl,rfl⟩
     (simp +decide only [go_sem,gcD_eq,gcIds_eq,List.map_nil,List.map_cons,grV_cons,grH_cons,List.length_nil]<;>rfl)<;>rfl
    | cons a r=>
     have hrm3:r.length + 1 + 1 ≤ 1000000000:=by simp only [List.length_cons] at hol;omega
     simp only [List.map_cons,grV_cons,grH_cons,List.length_map]
     (repeat first|simp only [ww]|(apply xa;simp +decide only [go_sem,c3,ht0,e2,hb',hw3,hrm3];rfl;kernel_rfl))
     refine lpJ_n (n - (t + 1)) (by omega) ⟨_,_,?_,t + 1,a :: r ++ [t],rfl,htl,hst.symm,rfl,rfl⟩
     (simp +decide only [go_sem,gcD_eq,gcIds_eq,List.cons_append,List.map_cons,List.map_append,List.map_nil,grV_cons,grH_cons,refsI,renI,List.length_cons,List.length_map,List.length_append,List.length_nil]<;>rfl)<;>rfl
   ·rw [if_neg hb,List.append_nil] at hst
    have hb':¬ ((x / 2 ^ t % 2:Nat):Int) = 1:=by omega
    cases o with
    | nil=>
     simp only [List.map_nil,grV_nil,grH_nil]
     (repeat first|simp only [ww]|(apply xa;simp +decide only [go_sem,c3,ht0,e2,hb',hw3];rfl;kernel_rfl))
     refine lpJ_n (n - (t + 1)) (by omega) ⟨_,_,?_,t + 1,[],rfl,htl,hst.symm,rfl,rfl⟩
     (simp +decide only [go_sem,gcD_eq,gcIds_eq,List.map_nil,grV_nil,grH_nil]<;>rfl)<;>rfl
    | cons a r=>
     simp only [List.map_cons,grV_cons,grH_cons,List.length_map]
     (repeat first|simp only [ww]|(apply xa;simp +decide only [go_sem,c3,ht0,e2,hb',hw3];rfl;kernel_rfl))
     refine lpJ_n (n - (t + 1)) (by omega) ⟨_,_,?_,t + 1,a :: r,rfl,htl,hst.symm,rfl,rfl⟩
     (simp +decide only [go_sem,gcD_eq,gcIds_eq,List.map_cons,grV_cons,grH_cons,refsI,renI,List.length_map]<;>rfl)<;>rfl
  ·obtain rfl:t = n:=by omega
   have c3:¬ (t:Int) < t:=by omega
   rw [← ho]
   cases o with
   | nil=>
    simp only [List.map_nil,grV_nil,grH_nil]
    (repeat first|simp only [ww]|(apply xa;simp +decide only [go_sem,c3];rfl;kernel_rfl))
    refine fqE_n (vs:=[.nilslice]) (r:=(_,_)) (by simp +decide only [go_sem]) ?_ rfl
    simp +decide only [go_sem,finish]<;>rfl
   | cons a r=>
    simp only [List.map_cons,grV_cons,grH_cons,List.length_map]
    (repeat first|simp only [ww]|(apply xa;simp +decide only [go_sem,c3];rfl;kernel_rfl))
    refine fqE_n (vs:=[.slice 0 0 (r.length + 1) none]) (r:=(_,_)) (by simp +decide only [go_sem]) ?_ rfl
    simp +decide only [go_sem,finish,slI,slF,List.map_cons,frzI,takeI,List.length_map]<;>rfl
theorem chosen_call {d:Bool} (H:Heap) (x n:Nat) (hn:n ≤ 8):callV L.env d (sem L.env Mf) (.func (.func 13) [] []) [.int .i64 x,.int .i64 n] H = some (slI (bitsN x n),H,[]):=
 callV_flat (by kernel_rfl) (by kernel_rfl) rfl rfl (chosen_ok x n hn) (slI_refs _)
theorem firstL_cons (x y:Nat) (a b:List Nat):firstL (x :: a) (y :: b) = if x = y then firstL a b else decide (x < y):=by rfl
theorem firstL_nil (a:List Nat):firstL a [] = false ∧ firstL [] a = false:=by constructor<;>cases a<;>rfl
theorem first_ok (a b:List Nat) (ha:a.length ≤ 1000) (hb:b.length ≤ 1000):sem L.env Mf 14 [slI a,slI b] [] = some (.bool (firstL a b),[]):=by
 have hla:=rv_len (slI_rv a)
 have hlb:=rv_len (slI_rv b)
 have har:=slI_refs a
 have hbr:=slI_refs b
 have han:∀ π,ren π (slI a) = slI a:=fun π=>ren_flat π _ har
 have hbn:∀ π,ren π (slI b) = slI b:=fun π=>ren_flat π _ hbr
 suffices hs:∃ r:AV × Heap,(r = (.bool (firstL a b),[])) ∧ sem L.env Mf 14 [slI a,slI b] [] = some r by
  obtain ⟨r,rfl,h3⟩:=hs
  exact h3
 (refine svE Tryd.f14 ?_;simp only [Tryd.f14,gS])
 (repeat first|simp only [ww]|(apply xa;simp +decide only [go_sem];rfl;kernel_rfl))
 refine xp_lp kp14_0 (fun q F H1=>∃ (i:Nat),q = a.length - i ∧ i ≤ a.length ∧ i ≤ b.length ∧ F = [(0,slI a),(1,slI b),(5,.int .i64 i)] ∧ H1 = [] ∧ firstL (a.drop i) (b.drop i) = firstL a b) a.length ?_ ?_
 ·refine ⟨_,_,?_,0,rfl,Nat.zero_le _,Nat.zero_le _,rfl,rfl,rfl⟩
  (simp +decide only [go_sem,gcD_eq,gcIds_eq,har,hbr,han,hbn]<;>rfl)<;>rfl
 ·rintro q F H1 ⟨i,rfl,hi,hib,rfl,rfl,hinv⟩
  by_cases h1:i < a.length
  ·have c1:(i:Int) < a.length:=by omega
   by_cases h2:i < b.length
   ·have c2:(i:Int) < b.length:=by omega
    obtain ⟨x,hx⟩:∃ x,a[i]? = some x:=⟨_,List.getElem?_eq_getElem h1⟩
    obtain ⟨y,hy⟩:∃ y,b[i]? = some y:=⟨_,List.getElem?_eq_getElem h2⟩
    have hda:a.drop i = x :: a.drop (i + 1):=by rw [← List.getElem_cons_drop h1,(List.getElem?_eq_some_iff.1 hx).2]
    have hdb:b.drop i = y :: b.drop (i + 1):=by rw [← List.getElem_cons_drop h2,(List.getElem?_eq_some_iff.1 hy).2]
    rw [hda,hdb,firstL_cons] at hinv
    have hga:(a.map intR)[i]? = some [.int .i64 x]:=by rw [List.getElem?_map,hx];rfl
    have hgb:(b.map intR)[i]? = some [.int .i64 y]:=by rw [List.getElem?_map,hy];rfl
    have hsa:=slI_ne (l:=a) (by intro e;rw [e] at h1;simp at h1)
    have hsb:=slI_ne (l:=b) (by intro e;rw [e] at h2;simp at h2)
    have hw:=wI1 (n:=i) (by omega)
    by_cases hxy:x = y
    ·rw [if_pos hxy] at hinv
     subst hxy
     (repeat first|simp only [ww]|(apply xa;simp +decide only [go_sem,hla,hlb,c1,c2];rfl;kernel_rfl))
     (repeat first|simp only [ww]|((with_reducible first|apply xs2|apply xI);(·simp +decide only [go_sem,hsa,hsb,hga,hgb,h1,h2,List.length_map,hw];rfl);with_reducible first|apply xT|apply xF|(·kernel_rfl)))
     refine lpJ_n (a.length - (i + 1)) (by omega) ⟨_,_,?_,i + 1,rfl,h1,h2,rfl,rfl,hinv⟩
     (simp +decide only [go_sem,gcD_eq,gcIds_eq,hsa,hsb,refsI,renI]<;>rfl)<;>rfl
    ·rw [if_neg hxy] at hinv
     have c3:((x:Int) = y) = False:=eq_false (by omega)
     have c4:decide ((x:Int) < y) = decide (x < y):=by rw [Bool.eq_iff_iff];simp
     (repeat first|simp only [ww]|(apply xa;simp +decide only [go_sem,hla,hlb,c1,c2];rfl;kernel_rfl))
     (repeat first|simp only [ww]|((with_reducible first|apply xs2|apply xI);(·simp +decide only [go_sem,hsa,hsb,hga,hgb,h1,h2,List.length_map,c3];rfl);with_reducible first|apply xT|apply xF|(·kernel_rfl)))
     refine fqE_r (vs:=[.bool (decide ((x:Int) < y))]) (r:=(_,_)) (by simp +decide only [go_sem]) (by simp +decide only [go_sem,finish]<;>rfl) ?_
     rw [c4,hinv]
   ·have c2:¬ (i:Int) < b.length:=by omega
    have hdb:b.drop i = []:=List.drop_of_length_le (by omega)
    rw [hdb,(firstL_nil _).1] at hinv
    (repeat first|simp only [ww]|(apply xa;simp +decide only [go_sem,hla,hlb,c1,c2];rfl;kernel_rfl))
    refine fqE_n (vs:=[.bool false]) (r:=(_,_)) (by simp +decide only [go_sem]) (by simp +decide only [go_sem,finish]<;>rfl) ?_
    rw [← hinv]
  ·have c1:¬ (i:Int) < a.length:=by omega
   have hda:a.drop i = []:=List.drop_of_length_le (by omega)
   rw [hda,(firstL_nil _).2] at hinv
   (repeat first|simp only [ww]|(apply xa;simp +decide only [go_sem,hla,hlb,c1];rfl;kernel_rfl))
   refine fqE_n (vs:=[.bool false]) (r:=(_,_)) (by simp +decide only [go_sem]) (by simp +decide only [go_sem,finish]<;>rfl) ?_
   rw [← hinv]
theorem first_call {d:Bool} (H:Heap) (a b:List Nat) (ha:a.length ≤ 1000) (hb:b.length ≤ 1000):callV L.env d (sem L.env Mf) (.func (.func 14) [] []) [slI a,slI b] H = some (.bool (firstL a b),H,[]):=
 callV_flat (by kernel_rfl) (by kernel_rfl) rfl (by simp [refsL,slI_refs]) (first_ok a b ha hb) rfl
/-- Ints, of two immutable lists. -/
theorem ints_imm (l:List Nat) (V:AV) (hV:RV l V) (hl:l.length < 1000000):sem L.env Mf 16 [lsV l,V] [] = some (.int .i64 0,[]):=by
 have hlen2:=rv_len (lsV_rv l) (HeapF [])
 have hlen:=rv_len hV (HeapF [])
 have hcap:=lsV_cap l
 have hr:=lsV_refs l
 have hVr:=hV.refs
 have hren:∀ π,ren π (lsV l) = lsV l:=fun π=>ren_flat π _ hr
 have hVn:∀ π,ren π V = V:=fun π=>ren_flat π _ hVr
 have c0:¬ (l.length:Int) < l.length:=by omega
 suffices hs:∃ r:AV × Heap,(r = (.int .i64 0,[])) ∧ sem L.env Mf 16 [lsV l,V] [] = some r by
  obtain ⟨r,rfl,h3⟩:=hs
  exact h3
 (refine svE Tryd.f16 ?_;simp only [Tryd.f16,gS])
 (repeat first|simp only [ww]|(apply xa;simp +decide only [go_sem,hlen,hlen2,hcap,c0];rfl;kernel_rfl))
 refine xp_lp kp16_0 (fun n F H1=>∃ (i:Nat),n = l.length - i ∧ i ≤ l.length ∧ F = [(0,lsV l),(1,V),(5,.int .i64 i)] ∧ H1 = []) l.length ?_ ?_
 ·refine ⟨_,_,?_,0,rfl,Nat.zero_le _,rfl,rfl⟩
  (simp +decide only [go_sem,gcD_eq,gcIds_eq,hr,hren,hVr,hVn]<;>rfl)<;>rfl
 ·rintro n F H1 ⟨i,rfl,hi,rfl,rfl⟩
  by_cases hlt:i < l.length
  ·obtain ⟨v,hv⟩:∃ v,l[i]? = some v:=⟨_,List.getElem?_eq_getElem hlt⟩
   have hg:(l.map intR)[i]? = some [.int .i64 v]:=by rw [List.getElem?_map,hv];rfl
   have hls:lsV l = .islice (l.map intR) (some l.length):=by
    cases l with
    | nil=>simp at hlt
    | cons a r=>rfl
   have c1:(i:Int) < l.length:=by omega
   have hw:=wI1 (n:=i) (by omega)
   cases hV with
   | nil h0=>rw [h0] at hlt;simp at hlt
   | imm cc=>
    (repeat first|simp only [ww]|(apply xa;simp +decide only [go_sem,hlen2,c1];rfl;kernel_rfl))
    (repeat first|simp only [ww]|((with_reducible first|apply xs2|apply xI);(·simp +decide only [go_sem,hls,hg,hlt,List.length_map,hw];rfl);with_reducible first|apply xT|apply xF|(·kernel_rfl)))
    refine lpJ_n (l.length - (i + 1)) (by omega) ⟨_,_,?_,i + 1,rfl,hlt,rfl,rfl⟩
    (simp +decide only [go_sem,gcD_eq,gcIds_eq,hls,refsI,renI]<;>rfl)<;>rfl
  ·obtain rfl:i = l.length:=by omega
   have c1:¬ (l.length:Int) < l.length:=by omega
   (repeat first|simp only [ww]|(apply xa;simp +decide only [go_sem,hlen2,c1];rfl;kernel_rfl))
   refine fqE_n (vs:=[.int .i64 0]) (r:=(_,_)) (by simp +decide only [go_sem]) ?_ rfl
   simp +decide only [go_sem,finish]<;>rfl
theorem ints_immc {d:Bool} (H:Heap) {l:List Nat} {V:AV} (hV:RV l V) (hl:l.length < 1000000):callV L.env d (sem L.env Mf) (.func (.func 16) [] []) [lsV l,V] H = some (.int .i64 0,H,[]):=
 callV_flat (by kernel_rfl) (by kernel_rfl) rfl (by simp [refsL,hV.refs,lsV_refs]) (ints_imm l V hV hl) rfl
end Go.KInst
