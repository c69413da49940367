/- Part of a proof. No condition. -/
import Derived.Test.YtgmenpackpnmaaaGreatDoorMSb
import Derived.Test.YtgmenpackpnmaaaGreatDoorMLa
import Derived.Test.YtgmenpackpnmaaaGreatDoorPcB
import Derived.Test.YtgmenpackpnmaaaGreatDoorAxE
set_option linter.unusedSimpArgs false
set_option linter.unusedVariables false
namespace Go.MInst
open Go.Proofs Go.Ax Go.Pc Go.Sort
set_option maxRecDepth 100000
theorem c72 (T:Nat) (F:List Int) (k:Nat) (hk:k < T):leN (a80 T F) k = (F.countP fun x=>decide (0 ≤ x ∧ x ≤ (k:Int)):Nat):=by
 unfold leN a80
 rw [(List.mergeSort_perm _ _).countP_eq,List.countP_filter]
 congr 1
 refine List.countP_congr fun x _=>?_
 simp only [a95,Bool.and_eq_true,Bool.not_eq_true',decide_eq_true_eq,decide_eq_false_iff_not]
 omega
theorem d7b (cf cc:Option (Option Nat)) (F:List Int) (CR:List (List AV)) (T:Nat) (hF:F.length ≤ 100) (hT:T ≤ 4096) (d:Bool) (H:a06) :
 a0e L.env d (sem L.env Mf) (.func (.func 11) [] []) [.agg [sl cf (F.map a2r),sl cc CR,.int .i64 T]] H = some (.islice (a45 (leN (a80 T F)) T) (some T),H,[]):=by
 have hr:refs (.islice (a45 (leN (a80 T F)) T) (some T)) = []:=rfl
 have hi:∀ cf,a0e L.env d (sem L.env Mf) (.func (.func 11) [] []) [.agg [.islice (F.map a2r) cf,sl cc CR,.int .i64 T]] H = some (.islice (a45 (leN (a80 T F)) T) (some T),H,[]):=by
  intro cf
  exact a05 (by kernel_rfl) (by kernel_rfl) rfl (by simp +decide only [go_sem]<;>rfl) (d79 cf cc F CR T (by omega) hT) rfl
 cases cf with
 | some c=>rw [a3v];exact hi c
 | none=>
  cases F with
  | nil=>
   have h0:a45 (fun _=>0) T = a45 (leN (a80 T [])) T:=by rw [d1d];exact a6z fun _ _=>rfl
   rw [← h0]
   exact a05 (by kernel_rfl) (by kernel_rfl) rfl (by simp +decide only [go_sem]<;>rfl) (d7a cc CR T hT) rfl
  | cons x F=>exact hi none
open Go.Proofs Go.Ax Go.Pc
def frs (D:Nat → Nat → Bool) (n T:Nat):List Int:=(List.range n).map fun i=>a27 (D i) T
theorem c9t {most:Int} (D:Nat → Nat → Bool) (n T:Nat) (h:(T:Int) ≤ most):b04 most D n (fun _=>T) = (frs D n T).map a2r:=by
 unfold b04 frs
 rw [List.map_map]
 exact List.map_congr_left fun i _=>by rw [b7t (D i) T h];rfl
def cns (most:Int) (D:Nat → Nat → Bool) (n T:Nat):List Int:=(List.range n).map fun i=>(a2v most (D i) T).2
theorem c9x (most:Int) (D:Nat → Nat → Bool) (n T:Nat):b05 most D n (fun _=>T) = (cns most D n T).map a2r:=by
 unfold b05 cns
 rw [List.map_map]
 rfl
theorem c01 (D:Nat → Nat → Bool) (n T:Nat):(frs D n T).length = n:=by simp [frs]
set_option maxHeartbeats 200000000
theorem b6a {D D':Nat → Bool}:∀ {t:Nat},(∀ j,j < t → D j = D' j) → a27 D t = a27 D' t
 | 0,_=>rfl
 | t + 1,h=>by
  have h1:a27 D t = a27 D' t:=b6a fun j hj=>h j (by omega)
  unfold a27
  simp only [h1,h t (Nat.lt_succ_self t)]
theorem d17 (R:List (List AV)) (hR:OneR R) (hl:R.length ≤ 1000) (n:Nat) (hn:n = R.length) (m:Option Nat) :
 sem L.env Mf 14 [.islice R (some n),.islice R m] [] = some (.bool true,[]):=by
 subst hn
 (refine sv Tryz.f14 ?_;simp only [Tryz.f14,gS])
 (repeat first|simp only [ww]|(apply xa;simp +decide only [go_sem];rfl;kernel_rfl))
 refine a0l (m:=0) (σ:=Nat) kp14_0 (fun k=>[(0,.islice R (some R.length)),(1,.islice R m),(5,.int .i64 k)]) (fun k=>[]) (fun k=>R.length - k) (fun k=>k ≤ R.length) 0 ?_ (Nat.zero_le _) ?_
 ·(simp +decide only [go_sem,a02,a00]<;>rfl)<;>rfl
 ·intro k hk
  by_cases hlt:k < R.length
  ·obtain ⟨x,hx⟩:=hR.get hlt
   have d1:(k:Int) < R.length:=by omega
   have hwk:=wI1 (n:=k) (by omega)
   (repeat first|simp only [ww]|(apply xa;simp +decide only [go_sem,d1,hlt,hx,hwk];rfl;kernel_rfl))
   refine a1m (k + 1) ?_ (by omega) (by omega)
   (simp +decide only [go_sem,a02,a00]<;>rfl)<;>rfl
  ·obtain rfl:k = R.length:=by omega
   have d1:¬ (R.length:Int) < R.length:=by omega
   (repeat first|simp only [ww]|(apply xa;simp +decide only [go_sem,d1];rfl;kernel_rfl))
   (apply fqb;simp +decide only [go_sem]<;>rfl)
theorem d7c (D D':Nat → Nat → Bool) (n T k:Nat) (hk:k ≤ T) (h:∀ i j,j < k → D' i j = D i j):a45 (leN (a80 k (frs D' n k))) k = (a45 (leN (a80 T (frs D n T))) T).take k:=by
 have e:(a45 (leN (a80 T (frs D n T))) T).take k = a45 (leN (a80 T (frs D n T))) k:=by
  unfold a45
  rw [← List.map_take,List.take_range,Nat.min_eq_left hk]
 rw [e]
 refine a6z fun j hj=>?_
 rw [c72 k _ j hj,c72 T _ j (by omega)]
 unfold frs
 rw [List.countP_map,List.countP_map]
 congr 1
 refine List.countP_congr fun i _=>?_
 have h1:a27 (D' i) k = a27 (D i) k:=b6a fun j hj=>h i j hj
 have h2:=c7a (D i) k (T - k)
 rw [show k + (T - k) = T by omega] at h2
 simp only [Function.comp,decide_eq_true_eq,h1,h2]
 split<;>omega
theorem lawPre_ok (x:CaseX) (hx:x.ok) (many:Nat) (hmany:many < 256):sem L.env Mf 4 [.agg x.enc,.int .u8 many] [] = some (.bool true,[]):=by
 obtain ⟨lr,tr,l,ts,hll,htl,hf,hp,hcase⟩:=c7t x hx
 have hw:(a8l x.c).cir.wf:=CX.wf _
 have hcase:=fun H=>hcase false H
 generalize (a8l x.c).cir = c at hf hp hcase hw
 obtain ⟨ord,hO⟩:=e0l c hw
 have hop:=hO.perm
 have hst:=c9j c hw ord hO
 have hof2:=fun d rq Q hq hqp H=>d0i (d:=d) H c hw lr rq l Q hll hq hf hqp ord hop hst _ rfl
 have hlv:=fun H=>c2y (d:=false) H
 have hDv:∀ Q i k,c1x c ord l Q i k = match l[i]?,Q[k]? with|some f,some p=>(a2g c ord).det f p|_,_=>false:=fun _ _ _=>rfl
 generalize c1x c ord l = DD at hof2 hDv
 obtain ⟨n,hn⟩:∃ n,n = l.length:=⟨_,rfl⟩
 rw [← hn] at hll
 have hof2:∀ (d:Bool) rq Q,Q.length ≤ 100 → (∀ p ∈ Q,PatOk c.nodes p) → ∀ H,a0e L.env d (sem L.env Mf) (.func (.func 9) [] []) [.agg c.enc,sl lr (l.map Flt.enc),sl rq (Q.map Pat.enc)] H = some (.tuple [.agg [.islice ((frs (DD Q) n Q.length).map a2r) (some n),.islice ((cns (Q.length + 1) (DD Q) n Q.length).map a2r) (some n),.int .i64 Q.length],.int .i64 0],H,[]):=by
  intro d rq Q hq hqp H
  have:=hof2 d rq Q hq hqp H
  simp only [← hn] at this
  rw [c9t (DD Q) n Q.length (by omega),c9x] at this
  exact this
 have hcu:∀ Q:List Pat,Q.length ≤ 100 → ∀ H,a0e L.env false (sem L.env Mf) (.func (.func 11) [] []) [.agg [.islice ((frs (DD Q) n Q.length).map a2r) (some n),.islice ((cns (Q.length + 1) (DD Q) n Q.length).map a2r) (some n),.int .i64 Q.length]] H = some (.islice (a45 (leN (a80 Q.length (frs (DD Q) n Q.length))) Q.length) (some Q.length),H,[]):=
  fun Q hq H=>d7b (some (some n)) (some (some n)) (frs (DD Q) n Q.length) ((cns (Q.length + 1) (DD Q) n Q.length).map a2r) Q.length (by rw [c01];omega) (by omega) false H
 obtain ⟨T,hT⟩:∃ T,T = ts.length:=⟨_,rfl⟩
 obtain ⟨k,hk⟩:∃ k,k = many % (T + 1):=⟨_,rfl⟩
 have hkT:k ≤ T:=by rw [hk];have:=Nat.mod_lt many (show 0 < T + 1 by omega);omega
 have hQl:(ts.take k).length = k:=by rw [List.length_take];omega
 have hQp:∀ p ∈ ts.take k,PatOk c.nodes p:=fun p h=>hp p (List.mem_of_mem_take h)
 have hD2:∀ i j,j < k → DD (ts.take k) i j = DD ts i j:=by
  intro i j hj
  rw [hDv,hDv,List.getElem?_take,if_pos hj]
 obtain ⟨rp,hrp⟩:=c0l tr (ts.map Pat.enc) 0 k
 rw [List.drop_zero,← List.map_take] at hrp
 have ho1:=fun d=>hof2 d tr ts htl hp
 have ho2:=fun d=>hof2 d rp (ts.take k) (by omega) hQp
 have hc1:=hcu ts htl
 have hc2:=hcu (ts.take k) (by omega)
 rw [← hT] at htl
 simp only [← hT] at ho1 hc1
 simp only [hQl] at ho2 hc2
 have hcrv:=d7c (DD ts) (DD (ts.take k)) n T k hkT hD2
 have hin:=fun H=>a05 (E:=L.env) (draw:=false) (call:=sem L.env Mf) (g:=14) (fs:=[]) (cs:=[]) (ar:=[.islice (a45 (leN (a80 k (frs (DD (ts.take k)) n k))) k) (some k),.islice (a45 (leN (a80 k (frs (DD (ts.take k)) n k))) k) (some T)]) (H:=H) (by kernel_rfl) (by kernel_rfl) rfl rfl
  (d17 (a45 (leN (a80 k (frs (DD (ts.take k)) n k))) k) (fun r hr=>by obtain ⟨j,_,rfl⟩:=List.mem_map.1 hr;exact ⟨_,rfl⟩) (by rw [a3x];omega) k (by rw [a3x]) (some T)) rfl
 rw [hcrv] at hc2 hin
 generalize leN (a80 T (frs (DD ts) n T)) = g at hc1 hc2 hin
 have hlT:=fun f=>a3x f T
 have hFg:∀ i,i < n → ((frs (DD ts) n T).map a2r)[i]? = some [AV.int .i64 (a27 (DD ts i) T)]:=by
  intro i hi;simp [frs,a2r,hi]
 have hGg:∀ i,i < n → ((frs (DD (ts.take k)) n k).map a2r)[i]? = some [AV.int .i64 (if (k:Int) ≤ a27 (DD ts i) T then -1 else a27 (DD ts i) T)]:=by
  intro i hi
  have h2:=c7a (DD ts i) k (T - k)
  rw [show k + (T - k) = T by omega] at h2
  rw [← h2,← b6a (t:=k) (hD2 i)]
  simp [frs,a2r,hi]
 have hFl:((frs (DD ts) n T).map a2r).length = n:=by rw [List.length_map,c01]
 have hGl:((frs (DD (ts.take k)) n k).map a2r).length = n:=by rw [List.length_map,c01]
 generalize (frs (DD ts) n T).map a2r = FA at ho1 hc1 hFg hFl
 generalize (frs (DD (ts.take k)) n k).map a2r = FB at ho2 hc2 hGg hGl
 generalize (cns (T + 1) (DD ts) n T).map a2r = CA at ho1 hc1
 generalize (cns (k + 1) (DD (ts.take k)) n k).map a2r = CB at ho2 hc2
 have hce:c.enc = [sl c.nc (c.nodes.map Nd.enc),sl c.mc (c.names.map a4e),.nilslice,sl c.oc (c.outs.map a0o)]:=rfl
 rw [hce] at hcase
 simp only [hce] at ho1 ho2
 have hxe:x.enc = [.int .u8 x.c.inn,.int .u8 x.c.dffs,.int .u8 x.c.d0,.int .u8 x.c.d1,.bool x.c.bus,.bool x.c.mem,.int .u8 x.c.p0,.int .u8 x.c.p1,.int .u8 x.c.p2,.int .u8 x.c.p3,sl x.c.gc (x.c.gates.map GX.enc),sl x.c.oc (x.c.outs.map u8R),sl x.fr (x.fs.map FX.enc),sl x.pr (x.ps.map Pat.enc)]:=rfl
 rw [hxe] at hcase ⊢
 have hln:(l.map Flt.enc).length = n:=by rw [List.length_map,hn]
 have htn:(ts.map Pat.enc).length = T:=by rw [List.length_map,hT]
 have hmm:(many:Int).tmod ((T + 1:Nat):Int) = (k:Nat):=by rw [hk];rfl
 have hwT:IntKind.i64.wrap ((T:Int) + 1) = ((T + 1:Nat):Int):=by rw [w64 (by omega) (by omega)];omega
 have hwk:IntKind.i64.wrap (k:Int) = (k:Int):=w64 (by omega) (by omega)
 have hwm:IntKind.i64.wrap (many:Int) = (many:Int):=w64 (by omega) (by omega)
 have hT0:¬ ((T + 1:Nat):Int) = 0:=by omega
 have hi1:inB ((k:Nat):Int) T = true:=b2p (by omega)
 have hal1:(ts.map Pat.enc).all (fun r=>decide (r.length = 2)) = true:=by simp [Pat.enc]
 (refine sv Tryz.f4 ?_;simp only [Tryz.f4,gS])
 (repeat first|simp only [ww]|(apply xa;simp +decide only [go_sem,hcase,hmm,hwT,hwk,hwm,hT0,ho1,ho2,hi1,hal1,hrp,hFl,hGl,hln,htn];rfl;kernel_rfl))
 refine a0l (m:=0) (σ:=Nat) kp4_0 (fun i=>[(6,sl lr (l.map Flt.enc)),(7,sl tr (ts.map Pat.enc)),(8,.int .i64 k),(9,.ptr 0 0 0),(11,.ptr 1 0 0),(13,.int .i64 i)])
  (fun i=>[some (.row 3 [[.islice FA (some n),.islice CA (some n),.int .i64 T]]),some (.row 3 [[.islice FB (some n),.islice CB (some n),.int .i64 k]])]) (fun i=>n - i) (fun i=>i ≤ n) 0 ?_ (Nat.zero_le _) ?_
 ·(simp +decide only [go_sem,a02,a00]<;>rfl)<;>rfl
 intro i hi
 by_cases hlt:i < n
 ·have d1:(i:Int) < n:=by omega
  have wi:=wI1 (n:=i) (by omega)
  have g1:=hFg i hlt
  have g2:=hGg i hlt
  generalize a27 (DD ts i) T = a at g1 g2
  by_cases ha:(k:Int) ≤ a
  ·rw [if_pos ha] at g2
   (repeat first|simp only [ww]|(apply xa;simp +decide only [go_sem,d1,hlt,hln,g1,g2,ha,hFl,hGl,wi];rfl;kernel_rfl))
   refine a1m (i + 1) ?_ (by omega) (by omega)
   (simp +decide only [go_sem,a02,a00]<;>rfl)<;>rfl
  ·rw [if_neg ha] at g2
   (repeat first|simp only [ww]|(apply xa;simp +decide only [go_sem,d1,hlt,hln,g1,g2,ha,hFl,hGl,wi];rfl;kernel_rfl))
   refine a1m (i + 1) ?_ (by omega) (by omega)
   (simp +decide only [go_sem,a02,a00]<;>rfl)<;>rfl
 obtain rfl:i = n:=by omega
 have d1:¬ (i:Int) < i:=by omega
 have hal2:(a45 g T).all (fun r=>decide (r.length = 1)) = true:=by simp [a45]
 have htk:((a45 g T).take k).length = k:=by rw [List.length_take,a3x];omega
 (repeat first|simp only [ww]|(apply xa;simp +decide only [go_sem,d1,hc1,hc2,hln,htn,hlT,htk,hi1,hal2,hin,hlv];rfl;kernel_rfl))
 (apply fqb;simp +decide only [go_sem]<;>rfl)
end Go.MInst
