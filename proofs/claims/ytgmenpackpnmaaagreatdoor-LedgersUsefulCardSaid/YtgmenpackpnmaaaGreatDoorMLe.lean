/- Part of a proof. No condition. -/
import Derived.Test.YtgmenpackpnmaaaGreatDoorMSb
import Derived.Test.YtgmenpackpnmaaaGreatDoorMLa
import Derived.Test.YtgmenpackpnmaaaGreatDoorPcB
import Derived.Test.YtgmenpackpnmaaaGreatDoorAxE
set_option linter.unusedSimpArgs false
set_option linter.unusedVariables false
namespace Go.MInst
open Go.Proofs Go.Ax Go.Pc Go.Sort
set_option maxRecDepth 100000
theorem d76 (T:Nat) (F:List Int) (k:Nat) (hk:k < T):leN (a4x T F) k = (F.countP fun x=>decide (0 ≤ x ∧ x ≤ (k:Int)):Nat):=by
 unfold leN a4x
 rw [(List.mergeSort_perm _ _).countP_eq,List.countP_filter]
 congr 1
 refine List.countP_congr fun x _=>?_
 simp only [a8r,Bool.and_eq_true,Bool.not_eq_true',decide_eq_true_eq,decide_eq_false_iff_not]
 omega
theorem d5o (t:Int) (F:List Int):(b1d t [] F).Perm (dd (a4x t F)):=by
 have hs:(a4x t F).Pairwise (·≤ ·):=by
  have:=List.pairwise_mergeSort (le:=fun x y:Int=>decide (x ≤ y)) (fun a b c h1 h2=>by simp only [decide_eq_true_eq] at *;omega) (fun a b=>by simp only [Bool.or_eq_true,decide_eq_true_eq];omega) (F.filter fun x=>!a8r t x)
  exact this.imp fun h=>by simpa using h
 have hd:(dd (a4x t F)).Nodup:=(e2b _ hs).imp fun h=>by omega
 refine (List.perm_ext_iff_of_nodup (b23 t F [] List.nodup_nil) hd).2 fun z=>?_
 rw [b24,e2a]
 unfold a4x
 rw [List.mem_mergeSort,List.mem_filter]
 simp only [a8r,List.not_mem_nil,false_or,Bool.not_eq_true',decide_eq_false_iff_not]
 exact ⟨fun h=>⟨h.1,by omega⟩,fun h=>⟨h.1,by omega,by omega⟩⟩
theorem e2e (t:Int) (F:List Int):(dd (a4x t F)).Pairwise (·< ·):=by
 refine e2b _ ?_
 have:=List.pairwise_mergeSort (le:=fun x y:Int=>decide (x ≤ y)) (fun a b c h1 h2=>by simp only [decide_eq_true_eq] at *;omega) (fun a b=>by simp only [Bool.or_eq_true,decide_eq_true_eq];omega) (F.filter fun x=>!a8r t x)
 exact this.imp fun h=>by simpa using h
theorem c9u (cf cc:Option (Option Nat)) (F:List Int) (CR:List (List AV)) (t:Int) (hF:F.length ≤ 100):∃ cu,e33 L.env 35 (sl cu ((dd (a4x t F)).map a1l)) = some (.int .i64 (dd (a4x t F)).length) ∧
 ∀ (d:Bool) H,a0e L.env d (sem L.env Mf) (.func (.func 10) [] []) [.agg [sl cf (F.map a1l),sl cc CR,.int .i64 t]] H = some (sl cu ((dd (a4x t F)).map a1l),H,[]):=by
 have hi:∀ cf,(∀ (d:Bool) H,a0e L.env d (sem L.env Mf) (.func (.func 10) [] []) [.agg [.islice (F.map a1l) cf,sl cc CR,.int .i64 t]] H = some (sl (some (some (dd (a4x t F)).length)) ((dd (a4x t F)).map a1l),H,[])):=by
  intro cf d H
  rw [a2v]
  exact a05 (by kernel_rfl) (by kernel_rfl) rfl (by simp +decide only [go_sem]<;>rfl) (c9s cf cc F CR t (by omega)) rfl
 have hc:e33 L.env 35 (sl (some (some (dd (a4x t F)).length)) ((dd (a4x t F)).map a1l)) = some (.int .i64 (dd (a4x t F)).length):=by rw [a2v];rfl
 cases cf with
 | some c=>exact ⟨_,hc,fun d H=>by rw [a2v];exact hi c d H⟩
 | none=>
  cases F with
  | nil=>
   refine ⟨none,?_,fun d H=>?_⟩
   ·rw [b6h];rfl
   ·rw [b6h]
    exact a05 (by kernel_rfl) (by kernel_rfl) rfl (by simp +decide only [go_sem]<;>rfl) (c9t cc CR t) rfl
  | cons x F=>exact ⟨_,hc,fun d H=>hi none d H⟩
theorem d7r (cf cc:Option (Option Nat)) (F:List Int) (CR:List (List AV)) (T:Nat) (hF:F.length ≤ 100) (hT:T ≤ 4096) (d:Bool) (H:a06) :
 a0e L.env d (sem L.env Mf) (.func (.func 11) [] []) [.agg [sl cf (F.map a1l),sl cc CR,.int .i64 T]] H = some (.islice (a5m (leN (a4x T F)) T) (some T),H,[]):=by
 have hr:refs (.islice (a5m (leN (a4x T F)) T) (some T)) = []:=rfl
 have hi:∀ cf,a0e L.env d (sem L.env Mf) (.func (.func 11) [] []) [.agg [.islice (F.map a1l) cf,sl cc CR,.int .i64 T]] H = some (.islice (a5m (leN (a4x T F)) T) (some T),H,[]):=by
  intro cf
  exact a05 (by kernel_rfl) (by kernel_rfl) rfl (by simp +decide only [go_sem]<;>rfl) (d7p cf cc F CR T (by omega) hT) rfl
 cases cf with
 | some c=>rw [a2v];exact hi c
 | none=>
  cases F with
  | nil=>
   have h0:a5m (fun _=>0) T = a5m (leN (a4x T [])) T:=by rw [b6h];exact a8h fun _ _=>rfl
   rw [← h0]
   exact a05 (by kernel_rfl) (by kernel_rfl) rfl (by simp +decide only [go_sem]<;>rfl) (d7q cc CR T hT) rfl
  | cons x F=>exact hi none
set_option maxHeartbeats 200000000
open Go.Proofs Go.Ax Go.Pc
def a67 (ts:List Pat) (z:Int):Pat:=(ts[z.toNat]?).getD ⟨none,[],none,[]⟩
def frs (D:Nat → Nat → Bool) (n T:Nat):List Int:=(List.range n).map fun i=>a4c (D i) T
theorem d0g {most:Int} (D:Nat → Nat → Bool) (n T:Nat) (h:(T:Int) ≤ most):a9i most D n (fun _=>T) = (frs D n T).map a1l:=by
 unfold a9i frs
 rw [List.map_map]
 exact List.map_congr_left fun i _=>by rw [a80 (D i) T h];rfl
def cns (most:Int) (D:Nat → Nat → Bool) (n T:Nat):List Int:=(List.range n).map fun i=>(a29 most (D i) T).2
theorem c1b (most:Int) (D:Nat → Nat → Bool) (n T:Nat):a92 most D n (fun _=>T) = (cns most D n T).map a1l:=by
 unfold a92 cns
 rw [List.map_map]
 rfl
theorem b6k (D:Nat → Nat → Bool) (n T:Nat):(frs D n T).length = n:=by simp [frs]
theorem c0l (most:Int) (D:Nat → Nat → Bool) (n T:Nat):(cns most D n T).length = n:=by simp [cns]
theorem e2d (D:Nat → Nat → Bool) (n T:Nat) (z:Int):z ∈ dd (a4x T (frs D n T)) ↔ (∃ i,i < n ∧ z = a4c (D i) T) ∧ 0 ≤ z ∧ z < T:=by
 rw [← (d5o T (frs D n T)).mem_iff,b24]
 simp only [frs,List.not_mem_nil,false_or,List.mem_map,List.mem_range]
 constructor
 ·rintro ⟨⟨i,h1,h2⟩,h3⟩;exact ⟨⟨i,h1,h2.symm⟩,h3⟩
 ·rintro ⟨⟨i,h1,h2⟩,h3⟩;exact ⟨⟨i,h1,h2.symm⟩,h3⟩
theorem d2m {most:Int} (D:Nat → Nat → Bool) (n T:Nat) (h:((T + 1:Nat):Int) ≤ most):leN (a4x ((T + 1:Nat):Int) (frs D n (T + 1))) T = ((List.range n).countP fun i=>decide (0 < (a29 most (D i) (T + 1)).2):Nat):=by
 rw [d76 (T + 1) _ T (by omega)]
 unfold frs
 rw [List.countP_map]
 congr 1
 refine List.countP_congr fun i _=>?_
 have h1:=b2r most (D i) (T + 1)
 rw [a80 (D i) (T + 1) h] at h1
 have h2:=a96 most (D i) (T + 1)
 have h3:=d7d (D i) (T + 1)
 simp only [Function.comp,decide_eq_true_eq]
 constructor
 ·intro h4;omega
 ·intro h4
  rcases h3 with h3|⟨k,h3,h5,_⟩
  ·omega
  ·omega
theorem d7v (most:Int) (D:Nat → Nat → Bool) (n T:Nat):(cns most D n T).countP (fun x=>decide (1 ≤ x)) = (List.range n).countP fun i=>decide (0 < (a29 most (D i) T).2):=by
 unfold cns
 rw [List.countP_map]
 refine List.countP_congr fun i _=>?_
 simp only [Function.comp,decide_eq_true_eq]
 omega
theorem lawUse_ok (x:CaseX) (hx:x.ok):sem L.env Mf 3 [.agg x.enc] [] = some (.bool true,[]):=by
 obtain ⟨lr,tr,l,ts,hll,htl,hf,hp,hcase⟩:=c8e x hx
 have hw:(a8s x.c).cir.wf:=CX.wf _
 have hcase:=fun H=>hcase false H
 generalize (a8s x.c).cir = c at hf hp hcase hw
 obtain ⟨ord,hO⟩:=e13 c hw
 have hop:=hO.perm
 have hst:=d06 c hw ord hO
 obtain ⟨all,hall⟩:∃ all:Int,all = ts.length + 1:=⟨_,rfl⟩
 have hof:=fun H=>c1s (d:=false) H c hw lr tr l ts hll htl hf hp ord hop hst all hall
 have hof2:=fun rq Q hq hqp H=>c1s (d:=false) H c hw lr rq l Q hll hq hf hqp ord hop hst _ rfl
 have hlv:=fun H=>c3j (d:=false) H
 have hDv:∀ Q i k,c2f c ord l Q i k = match l[i]?,Q[k]? with|some f,some p=>(a2i c ord).det f p|_,_=>false:=fun _ _ _=>rfl
 generalize c2f c ord l = DD at hof hof2 hDv
 obtain ⟨n,hn⟩:∃ n,n = l.length:=⟨_,rfl⟩
 obtain ⟨T,hT⟩:∃ T,T = ts.length:=⟨_,rfl⟩
 rw [← hT] at htl hall
 rw [← hn] at hll
 have hTa:(T:Int) ≤ all:=by omega
 simp only [← hn,← hT,d0g (DD ts) n T hTa,c1b] at hof
 obtain ⟨cu,_,hus⟩:=c9u (some (some n)) (some (some n)) (frs (DD ts) n T) ((cns all (DD ts) n T).map a1l) T (by rw [b6k];omega)
 have hus:=hus false
 have hcu:=fun H=>d7r (some (some n)) (some (some n)) (frs (DD ts) n T) ((cns all (DD ts) n T).map a1l) T (by rw [b6k];omega) (by omega) false H
 have hcv:=fun H=>a05 (E:=L.env) (draw:=false) (call:=sem L.env Mf) (g:=12) (fs:=[]) (cs:=[]) (ar:=[.agg [sl (some (some n)) ((frs (DD ts) n T).map a1l),sl (some (some n)) ((cns all (DD ts) n T).map a1l),.int .i64 T],.int .i64 1]) (H:=H) (by kernel_rfl) (by kernel_rfl) rfl (by simp +decide only [go_sem]<;>rfl) (e2i (some (some n)) (some (some n)) ((frs (DD ts) n T).map a1l) (cns all (DD ts) n T) T 1 (by rw [c0l];omega)) rfl
 rw [d7v,c0l] at hcv
 simp only [a2v] at hus hcu hcv
 have hmemS:=e2d (DD ts) n T
 have hasc:=e2e T (frs (DD ts) n T)
 have hSl:(dd (a4x T (frs (DD ts) n T))).length ≤ 80:=by
  have h1:=e2c (a4x T (frs (DD ts) n T))
  have h2:=b6i T (frs (DD ts) n T)
  rw [b6k] at h2;omega
 have hlast:∀ T',T = T' + 1 → leN (a4x T (frs (DD ts) n T)) T' = ((List.range n).countP fun i=>decide (0 < (a29 all (DD ts i) T).2):Nat):=by
  rintro T' rfl;exact d2m (DD ts) n T' hTa
 generalize leN (a4x T (frs (DD ts) n T)) = g at hcu hlast
 generalize dd (a4x T (frs (DD ts) n T)) = S at hus hmemS hasc hSl
 have hFl:((frs (DD ts) n T).map a1l).length = n:=by rw [List.length_map,b6k]
 have hCl:((cns all (DD ts) n T).map a1l).length = n:=by rw [List.length_map,c0l]
 have hCg:∀ i,i < n → ((cns all (DD ts) n T).map a1l)[i]? = some [AV.int .i64 (a29 all (DD ts i) T).2]:=by
  intro i hi;rw [← c1b];exact a8j hi
 generalize (frs (DD ts) n T).map a1l = FA at hof hus hcu hcv hFl
 generalize (cns all (DD ts) n T).map a1l = CA at hof hus hcu hcv hCl hCg
 have hce:c.enc = [sl c.nc (c.nodes.map Nd.enc),sl c.mc (c.names.map a44),.nilslice,sl c.oc (c.outs.map a0n)]:=rfl
 rw [hce] at hcase hof
 simp only [hce] at hof2
 have hxe:x.enc = [.int .u8 x.c.inn,.int .u8 x.c.dffs,.int .u8 x.c.d0,.int .u8 x.c.d1,.bool x.c.bus,.bool x.c.mem,.int .u8 x.c.p0,.int .u8 x.c.p1,.int .u8 x.c.p2,.int .u8 x.c.p3,sl x.c.gc (x.c.gates.map GX.enc),sl x.c.oc (x.c.outs.map u8R),sl x.fr (x.fs.map FX.enc),sl x.pr (x.ps.map Pat.enc)]:=rfl
 rw [hxe] at hcase ⊢
 have hlT:=fun f=>a5y f T
 have hln:(l.map Flt.enc).length = n:=by rw [List.length_map,hn]
 have htn:(ts.map Pat.enc).length = T:=by rw [List.length_map,hT]
 have hsto:∀ l:List Pat,(l.map Pat.enc).all (fun r=>r.all AV.storable) = true:=fun l=>by rw [List.all_eq_true];intro r hr;obtain ⟨f,_,rfl⟩:=List.mem_map.1 hr;simp [Pat.enc,b9l]
 have hfl:∀ l:List Pat,FlatR (l.map Pat.enc):=fun l=>FlatR.map fun f=>by simp [Pat.enc,a0c,a2r,a0d]
 have hrf:∀ l:List Pat,(l.map Pat.enc).flatMap a0d = []:=fun l=>a03 (hfl l)
 have hren:∀ (π:Nat → Option Nat) (l:List Pat),(l.map Pat.enc).map (fun r=>r.map (ren π)) = l.map Pat.enc:=fun π l=>a01 π (hfl l)
 have hfz:∀ (X Y:Option AObj) (L:List Pat),a42 0 true (a86 (a04 (X :: Y :: grH 2 (L.map Pat.enc))) 0 12) (grV 2 (L.map Pat.enc)) = some (sl none (L.map Pat.enc)):=by
  intro X Y L
  cases L with
  | nil=>rfl
  | cons f L=>
   have h1:((f :: L).map Pat.enc) ≠ []:=by simp
   rw [a82 2 h1,a83 2 h1,c2y h1]
   have h2:=a0s (m:=0) (d:=a86 (a04 [X,Y,some (.row 2 ((f :: L).map Pat.enc))]) 0 11) (hfl (f :: L))
   generalize (f :: L).map Pat.enc = R at h2 ⊢
   have h3:a04 [X,Y,some (.row 2 R)] 2 = some (.row 2 R):=rfl
   have h4:(R.drop 0).take R.length = R:=by simp
   simp +decide only [a6s,a5c,h3,a7t,a0j,h4,h2,Nat.zero_add,Nat.le_refl,decide_true,decide_false,cond_true,cond_false]
 (refine sv Tryz.f3 ?_;simp only [Tryz.f3,gS])
 (repeat first|simp only [ww]|(apply xa;simp +decide only [go_sem,hcase,hof,hus,hcu,hFl,hCl,hln,htn,hlT];rfl;kernel_rfl))
 refine c9m (m:=0) (σ:=Nat) kp3_0 rfl (fun i=>[(3,.ptr 0 0 0),(4,sl lr (l.map Flt.enc)),(5,sl tr (ts.map Pat.enc)),(6,.ptr 1 0 0),(8,sl cu (S.map a1l)),(9,.islice (a5m g T) (some T)),(10,grV 2 (((S.take i).map (a67 ts)).map Pat.enc)),(11,.int .i64 i),(1000000,.junk)])
  (fun i=>some (.row 4 [[sl c.nc (c.nodes.map Nd.enc),sl c.mc (c.names.map a44),.nilslice,sl c.oc (c.outs.map a0n)]]) :: some (.row 3 [[.islice FA (some n),.islice CA (some n),.int .i64 T]]) :: grH 2 (((S.take i).map (a67 ts)).map Pat.enc)) (fun i=>S.length - i) (fun i=>i ≤ S.length) 0 ?_ (Nat.zero_le _) ?_
 ·(simp +decide only [go_sem,a02,a00,List.take_zero,List.map_nil,a0q,a0r]<;>rfl)<;>rfl
 intro i hi
 have hSn:(S.map a1l).length = S.length:=List.length_map ..
 by_cases hlt:i < S.length
 ·obtain ⟨z,hz⟩:∃ z,S[i]? = some z:=⟨_,z9e hlt⟩
  obtain ⟨_,hz0,hz1⟩:=(hmemS z).1 (List.mem_of_getElem? hz)
  obtain ⟨q,rfl⟩:∃ q:Nat,z = q:=⟨z.toNat,by omega⟩
  have hqT:q < T:=by omega
  have hg:(S.map a1l)[i]? = some [AV.int .i64 q]:=by rw [List.getElem?_map,hz];rfl
  obtain ⟨p,hpq⟩:∃ p,ts[q]? = some p:=⟨_,z9e (by omega)⟩
  have hpg:(ts.map Pat.enc)[q]? = some p.enc:=by rw [List.getElem?_map,hpq];rfl
  have hpe:Pat.enc p = [sl p.ic (p.ins.map u8R),sl p.sc (p.sts.map u8R)]:=rfl
  have d1:(i:Int) < S.length:=by omega
  have d2:¬ (q:Int) < 0:=by omega
  have d3:¬ (T:Int) ≤ q:=by omega
  have wi:=wI1 (n:=i) (by omega)
  have hrs:((S.take (i + 1)).map (a67 ts)).map Pat.enc = ((S.take i).map (a67 ts)).map Pat.enc ++ [p.enc]:=by
   rw [b0d hz,List.map_append,List.map_append]
   congr 1
   simp only [List.map_cons,List.map_nil,a67,Int.toNat_natCast,hpq,Option.getD_some]
  have hlr:(((S.take i).map (a67 ts)).map Pat.enc).length = i:=by rw [List.length_map,List.length_map,List.length_take];omega
  have hrm:i + 1 ≤ 1000000000:=by omega
  have hr1:=hrf ((S.take i).map (a67 ts))
  have hr2:=fun π=>hren π ((S.take i).map (a67 ts))
  have hr3:=hsto ((S.take i).map (a67 ts))
  rcases Nat.eq_zero_or_pos i with hi0|hi0
  ·subst hi0
   have e0:((0:Nat):Int) = 0:=rfl
   simp only [List.take_zero,List.map_nil,a0q,a0r,List.nil_append] at hrs ⊢
   (repeat first|simp only [ww]|(apply xa;simp +decide only [go_sem,d1,d2,d3,hSn,hlt,hg,hpg,hpe,hqT,htn,wi];rfl;kernel_rfl))
   refine a1m 1 ?_ (by omega) (by omega)
   simp only [hrs,grV,grH]
   (simp +decide only [go_sem,a02,a00,hpe]<;>rfl)<;>rfl
  ·obtain ⟨j,rfl⟩:∃ j,i = j + 1:=⟨i - 1,by omega⟩
   obtain ⟨y,hy⟩:∃ y,S[j]? = some y:=⟨_,z9e (by omega)⟩
   have hgy:(S.map a1l)[j]? = some [AV.int .i64 y]:=by rw [List.getElem?_map,hy];rfl
   have hyx:y < q:=by
    have:=List.pairwise_iff_getElem.1 hasc j (j + 1) (by omega) hlt (by omega)
    rw [(List.getElem?_eq_some_iff.1 hz).2,(List.getElem?_eq_some_iff.1 hy).2] at this
    exact this
   have c4:¬ (q:Int) ≤ y:=by omega
   have c5:(0:Int) < ((j + 1:Nat):Int):=by omega
   have wj:IntKind.i64.wrap (((j + 1:Nat):Int) - 1) = (j:Nat):=by rw [w64 (by omega) (by omega)];omega
   have hjl:j < S.length:=by omega
   have hne:((S.take (j + 1)).map (a67 ts)).map Pat.enc ≠ []:=fun e=>by rw [e] at hlr;simp at hlr
   have e1:=a82 2 hne
   have e2:=a83 2 hne
   rw [e1,e2]
   generalize ((S.take (j + 1)).map (a67 ts)).map Pat.enc = R at *
   (repeat first|simp only [ww]|(apply xa;simp +decide only [go_sem,d1,d2,d3,c4,c5,wj,hjl,hgy,hSn,hlt,hg,hpg,hpe,hqT,htn,wi,hlr,hrm,hr3];rfl;kernel_rfl))
   refine a1m (j + 1 + 1) ?_ (by omega) (by omega)
   simp only [hrs,b1s,b6c,hlr]
   (simp +decide only [go_sem,a02,a00,hr1,hr2,hpe,List.flatMap_append,List.map_append]<;>rfl)<;>rfl
 obtain rfl:i = S.length:=by omega
 have d1:¬ (S.length:Int) < S.length:=by omega
 rw [List.take_length]
 have hz:=hfz (some (.row 4 [[sl c.nc (c.nodes.map Nd.enc),sl c.mc (c.names.map a44),.nilslice,sl c.oc (c.outs.map a0n)]])) (some (.row 3 [[.islice FA (some n),.islice CA (some n),.int .i64 T]])) (S.map (a67 ts))
 have hQl:(S.map (a67 ts)).length = S.length:=List.length_map ..
 have hQp:∀ p ∈ S.map (a67 ts),PatOk c.nodes p:=by
  intro p hp'
  obtain ⟨z,hz,rfl⟩:=List.mem_map.1 hp'
  obtain ⟨_,hz0,hz1⟩:=(hmemS z).1 hz
  have:z.toNat < ts.length:=by omega
  unfold a67
  rw [z9e this]
  exact hp _ (List.getElem_mem this)
 have hD2:∀ i j z,S[j]? = some z → DD (S.map (a67 ts)) i j = DD ts i z.toNat:=by
  intro i j z hz
  obtain ⟨_,hz0,hz1⟩:=(hmemS z).1 (List.mem_of_getElem? hz)
  have:z.toNat < ts.length:=by omega
  rw [hDv,hDv,List.getElem?_map,hz]
  simp only [Option.map_some,a67,z9e this,Option.getD_some]
 (repeat first|simp only [ww]|(apply xa;simp +decide only [go_sem,d1,hSn];rfl;kernel_rfl))
 rw [e6s]
 simp +decide only [go_sem,hz]
 have hof2:=hof2 none (S.map (a67 ts)) (by rw [hQl];omega) hQp
 have hsame:=e1y (DD ts) n T S hmemS (DD (S.map (a67 ts))) hD2
 rw [hQl] at hof2
 generalize DD (S.map (a67 ts)) = D2 at hof2 hsame hD2
 generalize S.map (a67 ts) = Q at hof2 hQl
 obtain ⟨all2,hall2⟩:∃ a:Int,a = (S.length:Int) + 1:=⟨_,rfl⟩
 rw [← hall2] at hof2
 simp only [← hn] at hof2
 have hCl2:(a92 all2 D2 n fun _=>S.length).length = n:=a60
 have hCg2:∀ i,i < n → (a92 all2 D2 n fun _=>S.length)[i]? = some [AV.int .i64 (a29 all2 (D2 i) S.length).2]:=fun i h=>a8j h
 generalize (a92 all2 D2 n fun _=>S.length) = CB at hof2 hCl2 hCg2
 generalize (a9i all2 D2 n fun _=>S.length) = FB at hof2
 (repeat first|simp only [ww]|(apply xa;simp +decide only [go_sem,hof2,hCl2,hln];rfl;kernel_rfl))
 refine a0l (m:=0) (σ:=Nat) kp3_2 (fun i=>[(4,sl lr (l.map Flt.enc)),(6,.iptr [.islice FA (some n),.islice CA (some n),.int .i64 T]),(9,.islice (a5m g T) (some T)),(12,.ptr 0 0 0),(14,.int .i64 ((List.range i).countP fun i=>decide (0 < (a29 all (DD ts i) T).2):Nat)),(15,.int .i64 i)])
  (fun i=>[some (.row 3 [[.islice FB (some n),.islice CB (some n),.int .i64 S.length]])]) (fun i=>n - i) (fun i=>i ≤ n) 0 ?_ (Nat.zero_le _) ?_
 ·(simp +decide only [go_sem,a02,a00]<;>rfl)<;>rfl
 intro i hi
 by_cases hlt:i < n
 ·have d1:(i:Int) < n:=by omega
  have wi:=wI1 (n:=i) (by omega)
  have g1:=hCg i hlt
  have g2:=hCg2 i hlt
  have hcb:=List.countP_le_length (p:=fun i=>decide (0 < (a29 all (DD ts i) T).2)) (l:=List.range i)
  rw [List.length_range] at hcb
  have hsn:(List.range (i + 1)).countP (fun i=>decide (0 < (a29 all (DD ts i) T).2)) = (List.range i).countP (fun i=>decide (0 < (a29 all (DD ts i) T).2)) + if 0 < (a29 all (DD ts i) T).2 then 1 else 0:=by
   rw [List.range_succ,List.countP_append,List.countP_cons,List.countP_nil];simp
  generalize (List.range i).countP (fun i=>decide (0 < (a29 all (DD ts i) T).2)) = u at hsn hcb ⊢
  have wu:=wI1 (n:=u) (by omega)
  have n1:=b2r all (DD ts i) T
  rw [a80 (DD ts i) T hTa] at n1
  have n2:=b2r all2 (D2 i) S.length
  rw [a80 (D2 i) S.length (by omega)] at n2
  have c1:=a96 all (DD ts i) T
  have c2:=a96 all2 (D2 i) S.length
  have hs:=hsame i hlt
  generalize (a29 all (DD ts i) T).2 = a at g1 n1 c1 hsn
  generalize (a29 all2 (D2 i) S.length).2 = b at g2 n2 c2
  by_cases ha:0 < a
  ·have hb:0 < b:=by omega
   rw [if_pos ha] at hsn
   (repeat first|simp only [ww]|(apply xa;simp +decide only [go_sem,d1,hlt,hln,g1,g2,ha,hb,hCl,hCl2,wi,wu];rfl;kernel_rfl))
   refine a1m (i + 1) ?_ (by omega) (by omega)
   rw [hsn]
   (simp +decide only [go_sem,a02,a00]<;>rfl)<;>rfl
  ·have hb:¬ 0 < b:=by omega
   rw [if_neg ha] at hsn
   (repeat first|simp only [ww]|(apply xa;simp +decide only [go_sem,d1,hlt,hln,g1,g2,ha,hb,hCl,hCl2,wi,wu];rfl;kernel_rfl))
   refine a1m (i + 1) ?_ (by omega) (by omega)
   rw [hsn]
   (simp +decide only [go_sem,a02,a00]<;>rfl)<;>rfl
 obtain rfl:i = n:=by omega
 have d1:¬ (i:Int) < i:=by omega
 generalize (List.range i).countP (fun i=>decide (0 < (a29 all (DD ts i) T).2)) = u at hcv hlast ⊢
 rcases Nat.eq_zero_or_pos T with hT0|hT0
 ·have d2:¬ (0:Int) < T:=by omega
  (repeat first|simp only [ww]|(apply xa;simp +decide only [go_sem,d1,hcv,hln,hlT,d2,hlv];rfl;kernel_rfl))
  (apply fqb;simp +decide only [go_sem]<;>rfl)
 ·obtain ⟨T',hT'⟩:∃ T',T = T' + 1:=⟨T - 1,by omega⟩
  have d2:(0:Int) < T:=by omega
  have wT:IntKind.i64.wrap ((T:Int) - 1) = (T':Nat):=by rw [w64 (by omega) (by omega)];omega
  have hgT:=a5z (f:=g) (T:=T) (j:=T') (by omega)
  rw [hlast T' hT'] at hgT
  have hTT:T' < T:=by omega
  (repeat first|simp only [ww]|(apply xa;simp +decide only [go_sem,d1,hcv,hln,hlT,d2,wT,hgT,hTT,hlv];rfl;kernel_rfl))
  (apply fqb;simp +decide only [go_sem]<;>rfl)
end Go.MInst
