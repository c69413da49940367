/- Part of a proof. No condition. -/
import Derived.Test.YtllalbnibhofiaaGreatDoorZInj8
import Derived.Test.YtllalbnibhofiaaGreatDoorAxF
set_option linter.unusedSimpArgs false
set_option linter.unusedVariables false
namespace Go.ZInst
set_option maxHeartbeats 200000000
open Go.Proofs Go.Ax Go.Pc
set_option maxRecDepth 100000
/-- The faults, as often as asked. -/
def b4v (l:List Flt):Nat → List Flt
 | 0=>[]
 | n + 1=>b4v l n ++ l
theorem c20 (l:List Flt):∀ n,(b4v l n).length = n * l.length
 | 0=>by simp [b4v]
 | n + 1=>by simp [b4v,c20 l n,Nat.add_mul]
theorem c1z (l:List Flt):∀ n,∀ f ∈ b4v l n,f ∈ l
 | 0,f,h=>by simp [b4v] at h
 | n + 1,f,h=>by
  rcases List.mem_append.1 h with h|h
  ·exact c1z l n f h
  ·exact h
theorem e2g {E:Env} {h:FHeap} {n:Nat} {e:TypeId} {xs:List (List AV)} (hx:xs ≠ []):apS E h n e xs .nilslice = bif a2l E e xs.length then some (.slice n 0 xs.length none,.new (.row (E.sz e) xs)) else none:=by
 cases xs with
 | nil=>exact absurd rfl hx
 | cons y ys=>rfl
/-- The law ParallelsFaults: it answers true. -/
theorem lawFaults_ok (x:CaseX) (hx:x.ok) (p:Pat) (hpx:PxOk p) (t:Nat) (ht:t < 256):f7x L.env Mf 5 [.agg x.enc,.agg p.enc,.int .u8 t] [] = some (.bool true,[]):=by
 obtain ⟨lr,tr,l,ts,hll,htl,hf,hp,hcase⟩:=c93 x hx
 have hw:(a88 x.c).cir.wf:=CX.wf _
 have hne:(a88 x.c).cir.outs ≠ []:=d69 _
 have hcase:=fun H=>hcase false H
 generalize (a88 x.c).cir = c at hf hp hcase hw hne
 obtain ⟨ord,hO⟩:=e0p c hw
 have hop:=hO.perm
 have hst:=d0q c hw ord hO
 obtain ⟨q,hq,hpc⟩:=a9x c hw p hpx
 have hflt:=fun (d:Bool) H rl l hll hf=>b8q (d:=d) H c hw rl l q hll hf hq ord hop hst
 have hdt:=fun (d:Bool) H f hf=>b9g (d:=d) H c hw hne q hq f hf ord hO
 have hlv:=fun H=>c48 (d:=false) H
 have hce:c.enc = [sl c.nc (c.nodes.map Nd.enc),sl c.mc (c.names.map a1r),.nilslice,sl c.oc (c.outs.map a0f)]:=rfl
 have hqe:Pat.enc q = [sl q.ic (q.ins.map u8R),sl q.sc (q.sts.map u8R)]:=rfl
 have hpe:Pat.enc p = [sl p.ic (p.ins.map u8R),sl p.sc (p.sts.map u8R)]:=rfl
 simp only [hce,hqe,hpe] at hcase hflt hdt hpc
 have hpc:=fun H=>hpc false H
 have hxe:x.enc = [.int .u8 x.c.inn,.int .u8 x.c.dffs,.int .u8 x.c.d0,.int .u8 x.c.d1,.bool x.c.bus,.bool x.c.mem,.int .u8 x.c.p0,.int .u8 x.c.p1,.int .u8 x.c.p2,.int .u8 x.c.p3,sl x.c.gc (x.c.gates.map GX.enc),sl x.c.oc (x.c.outs.map u8R),sl x.fr (x.fs.map FX.enc),sl x.pr (x.ps.map Pat.enc)]:=rfl
 rw [hpe]
 rw [hxe] at hcase ⊢
 have hm3:(t:Int).tmod 3 = ((t % 3:Nat):Int):=rfl
 obtain ⟨m,hm⟩:∃ m,m = t % 3:=⟨_,rfl⟩
 have hml:m < 3:=by omega
 rw [← hm] at hm3
 have hwm:IntKind.i64.wrap (m:Int) = (m:Int):=w64 (by omega) (by omega)
 have hlb:=c20 l
 have hmb:∀ k,k ≤ 3 → k * l.length ≤ 240:=fun k hk=>Nat.le_trans (Nat.mul_le_mul hk hll) (by decide)
 have hsto:∀ l:List Flt,(l.map Flt.enc).all (fun r=>r.all AV.storable) = true:=fun l=>by rw [List.all_eq_true];intro r hr;obtain ⟨f,_,rfl⟩:=List.mem_map.1 hr;rfl
 have hk5:∀ l:List Flt,(l.map Flt.enc).all (fun r=>decide (r.length = 5)) = true:=fun l=>by rw [List.all_eq_true];intro r hr;obtain ⟨f,_,rfl⟩:=List.mem_map.1 hr;rfl
 have hfl:∀ l:List Flt,FlatR (l.map Flt.enc):=fun l=>FlatR.map fun _=>rfl
 have hrf:∀ l:List Flt,(l.map Flt.enc).flatMap a0l = []:=fun l=>a0a (hfl l)
 have hren:∀ (π:Nat → Option Nat) (l:List Flt),(l.map Flt.enc).map (fun r=>r.map (ren π)) = l.map Flt.enc:=fun π l=>a0d π (hfl l)
 have hfz:∀ (b:Nat) (X Y:Option AObj) (L:List Flt),∃ rl:Rep,a3z 0 true (a6k (a02 (X :: Y :: grH 5 (L.map Flt.enc))) 0 12) (grV 2 (L.map Flt.enc)) = some (sl rl (L.map Flt.enc)):=by
  intro b X Y L
  cases L with
  | nil=>exact ⟨none,rfl⟩
  | cons f L=>
   refine ⟨some none,?_⟩
   have h1:((f :: L).map Flt.enc) ≠ []:=by simp
   rw [a8e 2 h1,a8f 5 h1,a7i]
   have h2:=a0q (m:=0) (d:=a6k (a02 [X,Y,some (.row 5 ((f :: L).map Flt.enc))]) 0 11) (hfl (f :: L))
   generalize (f :: L).map Flt.enc = R at h2 ⊢
   have h3:a02 [X,Y,some (.row 5 R)] 2 = some (.row 5 R):=rfl
   have h4:(R.drop 0).take R.length = R:=by simp
   simp +decide only [a8h,a7a,h3,a9c,a0k,h4,h2,Nat.zero_add,Nat.le_refl,decide_true,decide_false,cond_true,cond_false]
 (refine sv Tryz.f5 ?_;simp only [Tryz.f5,gS])
 (repeat first|simp only [ww]|(apply xa;simp +decide only [go_sem,hcase,hpc];rfl;kernel_rfl))
 refine d0b (m:=0) (σ:=Nat) kp5_0 rfl (fun k=>[(2,.int .u8 t),(7,.ptr 0 0 0),(8,sl lr (l.map Flt.enc)),(10,.ptr 1 0 0),(11,grV 2 ((b4v l k).map Flt.enc)),(12,.int .i64 k),(1000000,.junk)])
  (fun k=>some (.row 4 [[sl c.nc (c.nodes.map Nd.enc),sl c.mc (c.names.map a1r),.nilslice,sl c.oc (c.outs.map a0f)]]) :: some (.row 2 [[sl q.ic (q.ins.map u8R),sl q.sc (q.sts.map u8R)]]) :: grH 5 ((b4v l k).map Flt.enc)) (fun k=>4 - k) (fun k=>k ≤ m + 1) 0 ?_ (Nat.zero_le _) ?_
 ·(simp +decide only [go_sem,a01,a00,b4v]<;>rfl)
 ·intro k hk
  by_cases hkm:k ≤ m
  ·have d1:(k:Int) ≤ m:=by omega
   have hwk:=wI1 (n:=k) (by omega)
   have hb:=hmb (k + 1) (by omega)
   rw [← hlb] at hb
   have hrs:(b4v l (k + 1)).map Flt.enc = (b4v l k).map Flt.enc ++ l.map Flt.enc:=List.map_append
   by_cases hr:(b4v l k).map Flt.enc = []
   ·rw [hr,List.nil_append] at hrs
    rw [hr]
    by_cases hl:l.map Flt.enc = []
    ·rw [hl] at hrs
     (repeat first|simp only [ww]|(apply xa;simp +decide only [go_sem,d1,hm3,hwm,hwk,hl,a0b,a0c];rfl;kernel_rfl))
     refine a1w (k + 1) ?_ (by omega) (by omega)
     simp only [hrs,hl,a0b,a0c]
     (simp +decide only [go_sem,a01,a00]<;>rfl)
    ·have hrm:a2l L.env 55 l.length = true:=a6o (by omega) (by decide +kernel)
     have hap:=fun (E:Env) (h:FHeap) (n:Nat) (e:TypeId)=>e2g (E:=E) (h:=h) (n:=n) (e:=e) hl
     (repeat first|simp only [ww]|(apply xa;simp +decide only [go_sem,d1,hm3,hwm,hwk,hk5,hap,hrm,a0b,a0c,List.length_map];rfl;kernel_rfl))
     refine a1w (k + 1) ?_ (by omega) (by omega)
     simp only [hrs,a8e 2 hl,a8f 5 hl,List.length_map]
     (simp +decide only [go_sem,a01,a00,hrf,hren]<;>rfl)
   ·have hne2:(b4v l k).map Flt.enc ++ l.map Flt.enc ≠ []:=fun e=>hr (List.append_eq_nil_iff.1 e).1
    have e1:=a8e 2 hr
    have e2:=a8f 5 hr
    have hln:((b4v l k).map Flt.enc ++ l.map Flt.enc).length = (b4v l k).length + l.length:=by simp
    have hrm:a2l L.env 55 ((b4v l k).length + l.length) = true:=a6o (by rw [hlb] at hb ⊢;rw [Nat.add_mul] at hb;omega) (by decide +kernel)
    have hrf2:((b4v l k).map Flt.enc ++ l.map Flt.enc).flatMap a0l = []:=by rw [List.flatMap_append,hrf,hrf];rfl
    rw [e1,e2]
    (repeat first|simp only [ww]|(apply xa;simp +decide only [go_sem,d1,hm3,hwm,hwk,hk5,hsto,hrm,List.length_map];rfl;kernel_rfl))
    refine a1w (k + 1) ?_ (by omega) (by omega)
    simp only [hrs,a8e 2 hne2,a8f 5 hne2,hln]
    (simp +decide only [go_sem,a01,a00,hrf2,hren,List.map_append,List.length_map]<;>rfl)
  ·obtain rfl:k = m + 1:=by omega
   have d1:¬ ((m + 1:Nat):Int) ≤ m:=by omega
   obtain ⟨rl,hz⟩:=hfz 2 (some (.row 4 [[sl c.nc (c.nodes.map Nd.enc),sl c.mc (c.names.map a1r),.nilslice,sl c.oc (c.outs.map a0f)]])) (some (.row 2 [[sl q.ic (q.ins.map u8R),sl q.sc (q.sts.map u8R)]])) (b4v l (m + 1))
   have hLl:(b4v l (m + 1)).length ≤ 240:=by rw [hlb];exact hmb (m + 1) (by omega)
   have hLf:∀ f ∈ b4v l (m + 1),FltOk c.nodes f:=fun f hf'=>hf f (c1z l (m + 1) f hf')
   (repeat first|simp only [ww]|(apply xa;simp +decide only [go_sem,d1,hm3,hwm];rfl;kernel_rfl))
   rw [e5w]
   simp +decide only [go_sem,hz]
   generalize b4v l (m + 1) = L at hLl hLf
   have hflt:=fun H=>hflt false H rl L (by omega) hLf
   have hD:∀ (k:Nat) (f:Flt),L[k]? = some f → (L.map fun f=>[AV.bool ((a1p c ord).det f q)])[k]? = some [.bool ((a1p c ord).det f q)]:=by intro k f h;rw [List.getElem?_map,h];rfl
   have hDl:(L.map fun f=>[AV.bool ((a1p c ord).det f q)]).length = L.length:=by simp
   generalize (L.map fun f=>[AV.bool ((a1p c ord).det f q)]) = D at hflt hD hDl
   (repeat first|simp only [ww]|(apply xa;simp +decide only [go_sem,hflt,hDl,List.length_map];rfl;kernel_rfl))
   refine a0w (σ:=Nat) kp5_2 (fun k=>[(7,.iptr [sl c.nc (c.nodes.map Nd.enc),sl c.mc (c.names.map a1r),.nilslice,sl c.oc (c.outs.map a0f)]),(10,.iptr [sl q.ic (q.ins.map u8R),sl q.sc (q.sts.map u8R)]),(11,sl rl (L.map Flt.enc)),(13,.islice D (some L.length)),(15,.int .i64 k)]) (fun k=>[]) (fun k=>L.length - k) (fun k=>k ≤ L.length) 0 ?_ (Nat.zero_le _) ?_
   ·(simp +decide only [go_sem,a01,a00]<;>rfl)<;>rfl
   ·intro k hk
    by_cases hkt:k < L.length
    ·obtain ⟨f,hpk⟩:∃ f,L[k]? = some f:=⟨_,List.getElem?_eq_getElem hkt⟩
     have d1:(k:Int) < L.length:=by omega
     have hwk:=wI1 (n:=k) (by omega)
     have hfe:Flt.enc f = [.int .u8 f.model,.int .i64 f.node,.int .i64 f.pin,.int .u8 f.value,.int .i64 f.other]:=rfl
     have hdp:=fun (d:Bool) H=>hdt d H f (hLf f (List.mem_of_getElem? hpk))
     rw [hfe] at hdp
     have hDk:=hD k f hpk
     generalize (a1p c ord).det f q = bt at hdp hDk
     (repeat first|simp only [ww]|(apply xa;simp +decide only [go_sem,d1,hkt,hpk,hfe,hdp,hDk,hDl,hwk];rfl;kernel_rfl))
     refine a1w (k + 1) ?_ (by omega) (by omega)
     (simp +decide only [go_sem,a01,a00]<;>rfl)<;>rfl
    ·obtain rfl:k = L.length:=by omega
     have d1:¬ (L.length:Int) < L.length:=by omega
     (repeat first|simp only [ww]|(apply xa;simp +decide only [go_sem,d1,hlv];rfl;kernel_rfl))
     (apply f6w;simp +decide only [go_sem]<;>rfl)
end Go.ZInst
