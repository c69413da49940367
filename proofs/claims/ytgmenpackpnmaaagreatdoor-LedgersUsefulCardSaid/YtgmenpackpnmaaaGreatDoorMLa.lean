/- Part of a proof. No condition. -/
import Derived.Test.YtgmenpackpnmaaaGreatDoorMBase
import Derived.Test.YtgmenpackpnmaaaGreatDoorAxE
import Derived.Test.YtgmenpackpnmaaaGreatDoorMPa
import Derived.Test.YtgmenpackpnmaaaGreatDoorPcB
import Derived.Test.YtgmenpackpnmaaaGreatDoorMPe
set_option linter.unusedSimpArgs false
set_option linter.unusedVariables false
namespace Go.MInst
open Go.Proofs Go.Ax
set_option maxRecDepth 100000
theorem b7z:∀ n:Fin 81,(1#64 >>> (BitVec.ofInt 64 32).toNat * BitVec.ofNat 64 n >>> (BitVec.ofInt 64 32).toNat + (1#64 >>> (BitVec.ofInt 64 32).toNat * (BitVec.ofNat 64 n &&& BitVec.ofInt 64 4294967295) + ((1#64 &&& BitVec.ofInt 64 4294967295) * (BitVec.ofNat 64 n &&& BitVec.ofInt 64 4294967295)) >>> (BitVec.ofInt 64 32).toNat) >>> (BitVec.ofInt 64 32).toNat + ((1#64 >>> (BitVec.ofInt 64 32).toNat * (BitVec.ofNat 64 n &&& BitVec.ofInt 64 4294967295) + ((1#64 &&& BitVec.ofInt 64 4294967295) * (BitVec.ofNat 64 n &&& BitVec.ofInt 64 4294967295)) >>> (BitVec.ofInt 64 32).toNat &&& BitVec.ofInt 64 4294967295) + (1#64 &&& BitVec.ofInt 64 4294967295) * BitVec.ofNat 64 n >>> (BitVec.ofInt 64 32).toNat) >>> (BitVec.ofInt 64 32).toNat) = 0#64 ∧ 1#64 * BitVec.ofNat 64 n = BitVec.ofNat 64 n ∧ (BitVec.ofNat 64 n).toNat = n ∧ BitVec.ofInt 64 ((n:Nat):Int) = BitVec.ofNat 64 n:=by decide +kernel
theorem d12 (n:Nat) (hn:n ≤ 80):sem L.env Mf 133 [u64 1#64,u64 (BitVec.ofNat 64 n)] [] = some (.tuple [u64 0#64,u64 (BitVec.ofNat 64 n)],[]):=by
 obtain ⟨h1,h2,_⟩:=b7z ⟨n,by omega⟩
 simp only at h1 h2
 (refine sv Tryz.f133 ?_;simp only [Tryz.f133,gS])
 (repeat first|simp only [ww]|(apply xa;simp +decide only [go_sem];rfl;kernel_rfl))
 (apply fqb;simp +decide only [go_sem,h1,h2]<;>rfl)
theorem e1g (n:Nat) (hn:n ≤ 80):sem L.env Mf 89 [u64 1#64,u64 (BitVec.ofNat 64 n)] [] = some (.tuple [u64 0#64,u64 (BitVec.ofNat 64 n)],[]):=by
 have hm:=fun H=>a05 (E:=L.env) (draw:=false) (call:=sem L.env Mf) (g:=133) (fs:=[]) (cs:=[]) (ar:=[u64 1#64,u64 (BitVec.ofNat 64 n)]) (H:=H) (by kernel_rfl) (by kernel_rfl) rfl rfl (d12 n hn) rfl
 (refine sv Tryz.f89 ?_;simp only [Tryz.f89,gS])
 (repeat first|simp only [ww]|(apply xa;simp +decide only [go_sem,hm];rfl;kernel_rfl))
 (apply fqb;simp +decide only [go_sem]<;>rfl)
def b9c (n k:Nat):List (List AV):=List.replicate k [.int .i64 (-1)] ++ List.replicate (n - k) [.int .i64 0]
theorem d0l {n k:Nat} (h:k ≤ n):(b9c n k).length = n:=by simp [b9c];omega
theorem b7n {n k:Nat}:(b9c n k).take k = List.replicate k [.int .i64 (-1)]:=by
 unfold b9c
 rw [List.take_append_of_le_length (by simp),List.take_of_length_le (by simp)]
theorem c5q {n k j:Nat} (h:k + j ≤ n):(b9c n k).take k ++ (List.replicate j [.int .i64 (-1)] ++ (b9c n k).drop (k + j)) = b9c n (k + j):=by
 rw [b7n]
 unfold b9c
 rw [List.drop_append,List.drop_of_length_le (by simp),List.length_replicate,List.drop_replicate,← List.append_assoc,List.replicate_append_replicate,List.nil_append]
 congr 2;omega
theorem c1c (n:Nat):b9c n n = List.replicate n [.int .i64 (-1)]:=by simp [b9c]
theorem c5s (n k:Nat):FlatR (b9c n k):=by
 intro r hr
 rcases List.mem_append.1 hr with h|h<;>(rw [List.eq_of_mem_replicate h];rfl)
theorem c5r (n k:Nat):(b9c n k).flatMap a0d = []:=a03 (c5s n k)
theorem d0k (π:Nat → Option Nat) (n k:Nat):(b9c n k).map (fun r=>r.map (ren π)) = b9c n k:=a01 π (c5s n k)
theorem d59 (k:Nat):(List.replicate k [AV.int .i64 (-1)]).all (fun r=>r.all AV.storable) = true:=by
 rw [List.all_eq_true];intro r hr;rw [List.eq_of_mem_replicate hr];rfl
theorem c5p (n:Nat) (hn:n ≤ 80):sem L.env Mf 54 [.slice 0 0 1 (some 1),.int .i64 n] [some (.row 1 [[.int .i64 (-1)]])] = some (.slice 1 0 n (some n),[some (.row 1 [[.int .i64 (-1)]]),some (.row 1 (List.replicate n [.int .i64 (-1)]))]):=by
 have hw:IntKind.i64.wrap (n:Int) = n:=w64 (by omega) (by omega)
 have c0:¬ (n:Int) < 0:=by omega
 have hm:=fun H=>a05 (E:=L.env) (draw:=false) (call:=sem L.env Mf) (g:=89) (fs:=[]) (cs:=[]) (ar:=[u64 1#64,u64 (BitVec.ofNat 64 n)]) (H:=H) (by kernel_rfl) (by kernel_rfl) rfl rfl (e1g n hn) rfl
 obtain ⟨_,_,h3,h4⟩:=b7z ⟨n,by omega⟩
 simp only at h3 h4
 have c1:¬ (BitVec.ofInt 64 9223372036854775807).toNat < n:=by
  have:(BitVec.ofInt 64 9223372036854775807).toNat = 9223372036854775807:=by decide +kernel
  omega
 have e1:BitVec.ofInt 64 ((1:Nat):Int) = 1#64:=by decide
 have e0:¬ (BitVec.ofInt 64 0).toNat < (0#64).toNat:=by decide
 have hmk:b9e L.env 3 (n:Int) (n:Int) = true:=a3i (by omega) (by decide +kernel)
 have hcp:e2g L.env 35 = some 1:=by kernel_rfl
 rcases Nat.eq_zero_or_pos n with rfl|hp
 ·(refine sv Tryz.f54 ?_;simp only [Tryz.f54,gS])
  (repeat first|simp only [ww]|(apply xa;simp +decide only [go_sem,hw,c0,hm,h3,h4,c1,e1,e0,hmk,hcp];rfl;kernel_rfl))
  refine a0l (σ:=Nat) kp54_0 (fun k=>[(7,.slice 1 0 0 (some 0)),(8,.int .i64 0)]) (fun k=>[some (.row 1 [[.int .i64 (-1)]]),some (.row 1 [])]) (fun k=>0) (fun k=>True) 0 ?_ trivial ?_
  ·(simp +decide only [go_sem,a02,a00]<;>rfl)<;>rfl
  ·intro k _
   (repeat first|simp only [ww]|(apply xa;simp +decide only [go_sem];rfl;kernel_rfl))
   (apply fqb;simp +decide only [go_sem]<;>rfl)
 ·have hnz:¬ n = 0:=by omega
  have ht:List.take n [[AV.int .i64 (-1)]] = [[AV.int .i64 (-1)]]:=List.take_of_length_le (by simp only [List.length_cons,List.length_nil];omega)
  (refine sv Tryz.f54 ?_;simp only [Tryz.f54,gS])
  (repeat first|simp only [ww]|(apply xa;simp +decide only [go_sem,hw,c0,hm,h3,h4,c1,e1,e0,hmk,hcp,hnz,hp,ht,List.drop_replicate];rfl;kernel_rfl))
  refine a0l (σ:=Nat) kp54_0 (fun k=>[(7,.slice 1 0 n (some n)),(8,.int .i64 k)]) (fun k=>[some (.row 1 [[.int .i64 (-1)]]),some (.row 1 (b9c n k))]) (fun k=>n - k) (fun k=>1 ≤ k ∧ k ≤ n) 1 ?_ ⟨Nat.le_refl _,hp⟩ ?_
  ·(simp +decide only [go_sem,a02,a00]<;>rfl)<;>rfl
  ·rintro k ⟨hk1,hkn⟩
   have hRl:=d0l hkn
   have hRt:=b7n (n:=n) (k:=k)
   by_cases hlt:k < n
   ·have d1:(k:Int) < n:=by omega
    have d2:¬ n - k = 0:=by omega
    have d3:0 < n - k:=by omega
    have d4:k + (n - k) ≤ n:=by omega
    have hs:=c5q (n:=n) (k:=k) (j:=min (n - k) k) (by omega)
    rw [← List.append_assoc,hRt] at hs
    have hsto:=d59
    have hmin:1 ≤ min (n - k) k ∧ k + min (n - k) k ≤ n:=by omega
    have hwj:IntKind.i64.wrap ((k:Int) + (min (n - k) k:Nat)) = ((k + min (n - k) k:Nat):Int):=by rw [w64 (by omega) (by omega)];omega
    generalize b9c n k = R at hRl hRt hs ⊢
    (repeat first|simp only [ww]|(apply xa;simp +decide only [go_sem,d1,d2,d3,d4,hcp,hRl,hRt,hsto,List.take_replicate,List.length_replicate,hkn,hs,hwj];rfl;kernel_rfl))
    generalize min (n - k) k = j at hmin ⊢
    refine a1m (k + j) ?_ (by omega) (by omega)
    (simp +decide only [go_sem,a02,a00,c5r,d0k]<;>rfl)<;>rfl
   ·obtain rfl:k = n:=by omega
    have d1:¬ (k:Int) < k:=by omega
    (repeat first|simp only [ww]|(apply xa;simp +decide only [go_sem,d1];rfl;kernel_rfl))
    (apply fqb;simp +decide only [go_sem,c1c]<;>rfl)
theorem b9t {d:Bool} (X:Option AObj) (n:Nat) (hn:n ≤ 80):a0e L.env d (sem L.env Mf) (.func (.func 54) [] []) [.slice 1 0 1 (some 1),.int .i64 n] [X,some (.row 1 [[.int .i64 (-1)]])] = some (.slice 2 0 n (some n),[X,some (.row 1 [[.int .i64 (-1)]]),some (.row 1 (List.replicate n [.int .i64 (-1)]))],[1]):=
 c8k (E:=L.env) (draw:=d) (call:=sem L.env Mf) (g:=54) (fs:=[]) (cs:=[]) (ar:=[.slice 1 0 1 (some 1),.int .i64 n]) (H:=[X,some (.row 1 [[.int .i64 (-1)]])]) (b:=1) (o:=.row 1 [[.int .i64 (-1)]]) (o':=.row 1 [[.int .i64 (-1)]]) (o2:=.row 1 (List.replicate n [.int .i64 (-1)])) (by kernel_rfl) (by kernel_rfl) rfl rfl rfl (fun _=>rfl) rfl rfl (c5p n hn) (fun _=>rfl) (by have h:=c5s n n;rw [c1c] at h;exact FlatO.row (k:=1) h) rfl
theorem d2t (n t:Nat) (hn:n ≤ 80):sem L.env Mf 32 [.int .i64 n,.int .i64 t] [] = some (.agg [.slice 2 0 n (some n),.slice 3 0 n (some n),.int .i64 t],
 [some (.row 3 [[.slice 2 0 n (some n),.slice 3 0 n (some n),.int .i64 t]]),some (.row 1 [[.int .i64 (-1)]]),some (.row 1 (List.replicate n [.int .i64 (-1)])),some (.row 1 (List.replicate n [.int .i64 0]))]):=by
 have hr:=fun d X=>b9t (d:=d) X n hn
 have hmk:b9e L.env 3 (n:Int) (n:Int) = true:=a3i (by omega) (by decide +kernel)
 (refine sv Tryz.f32 ?_;simp only [Tryz.f32,gS])
 (repeat first|simp only [ww]|(apply xa;simp +decide only [go_sem,hr,hmk];rfl;kernel_rfl))
 (apply fqb;simp +decide only [go_sem]<;>rfl)
open Go.Proofs Go.Ax Go.Pc
def zF:List AV:=[.int .u8 0,.int .i64 0,.int .i64 0,.int .u8 0,.int .i64 0]
def pkF (l:List Flt) (is:List Nat):List Flt:=is.map fun i=>l.getD i ⟨0,0,0,0,0⟩
theorem c69 {l:List Flt} {is:List Nat} {j i:Nat} {f:Flt} (hj:is[j]? = some i) (hf:l[i]? = some f):(pkF l is)[j]? = some f:=by
 unfold pkF
 rw [List.getElem?_map,hj,Option.map_some,List.getD_eq_getElem?_getD,hf];rfl
theorem b61 (l:List Flt) (is:List Nat):(pkF l is).length = is.length:=by simp [pkF]
def pkR (L:List Flt) (j:Nat):List (List AV):=(L.take j).map Flt.enc ++ List.replicate (L.length - j) zF
theorem d65 (L:List Flt) (j:Nat) (hj:j ≤ L.length):(pkR L j).length = L.length:=by simp [pkR];omega
theorem d64 {L:List Flt} {j:Nat} {f:Flt} (h:L[j]? = some f):(pkR L j).set j (Flt.enc f) = pkR L (j + 1):=by
 have hj:=(List.getElem?_eq_some_iff.1 h).1
 unfold pkR
 have hl:((L.take j).map Flt.enc).length = j:=by simp;omega
 obtain ⟨q,hq⟩:∃ q,L.length - j = q + 1:=⟨L.length - j - 1,by omega⟩
 rw [hq,List.replicate_succ,List.set_append_right _ _ (by omega),hl,Nat.sub_self,List.set_cons_zero,show L.length - (j + 1) = q by omega,List.take_add_one,h]
 simp
theorem d66 {L:List Flt} {j:Nat} (h:j < L.length):(pkR L j)[j]? = some zF:=by
 unfold pkR
 rw [List.getElem?_append_right (by simp;omega)]
 have hl:((L.take j).map Flt.enc).length = j:=by simp;omega
 rw [hl,Nat.sub_self,List.getElem?_replicate,if_pos (by omega)]
theorem b60 (L:List Flt) (j:Nat):FlatR (pkR L j):=by
 intro r hr
 rcases List.mem_append.1 hr with h|h
 ·obtain ⟨f,_,rfl⟩:=List.mem_map.1 h;rfl
 ·rw [List.eq_of_mem_replicate h];rfl
theorem d68 (l:List Flt) (rl:Rep) (is:List Nat) (rest:List (List AV)) (c:Option Nat) (his:∀ i ∈ is,i < l.length) (hrest:FlatR rest) (hil:is.length ≤ 1000) :
 sem L.env Mf 33 [sl rl (l.map Flt.enc),.slice 0 0 is.length c] [some (.row 1 (is.map a0n ++ rest))] = some (.islice ((pkF l is).map Flt.enc) (some is.length),[some (.row 1 (is.map a0n ++ rest))]):=by
 have hL:=b61 l is
 have hz:pkR (pkF l is) 0 = List.replicate is.length zF:=by unfold pkR;rw [hL];rfl
 have hfin:pkR (pkF l is) is.length = (pkF l is).map Flt.enc:=by unfold pkR;rw [← hL,Nat.sub_self,List.take_length,List.replicate_zero,List.append_nil]
 have hw:IntKind.i64.wrap (is.length:Int) = is.length:=w64 (by omega) (by omega)
 have hget:∀ (j i:Nat),is[j]? = some i → (is.map a0n ++ rest)[j]? = some [AV.int .i64 (i:Int)]:=by
  intro j i h
  rw [List.getElem?_append_left (by simpa using (List.getElem?_eq_some_iff.1 h).1),List.getElem?_map,h];rfl
 have hRf:(is.map a0n ++ rest).flatMap a0d = []:=by rw [List.flatMap_append,a03 hrest,a03 (FlatR.map fun _=>rfl)];rfl
 have hRr:∀ π:Nat → Option Nat,(is.map a0n ++ rest).map (fun r=>r.map (ren π)) = is.map a0n ++ rest:=fun π=>a01 π (by
  intro r hr
  rcases List.mem_append.1 hr with h|h
  ·exact (FlatR.map (f:=a0n) (l:=is) fun _=>rfl) r h
  ·exact hrest r h)
 have hRl:is.length ≤ (is.map a0n ++ rest).length:=by simp
 generalize (is.map a0n ++ rest) = R at hget hRf hRr hRl ⊢
 have hmk:b9e L.env 68 (is.length:Int) (is.length:Int) = true:=a3i (by omega) (by decide +kernel)
 have hPf:∀ j,(pkR (pkF l is) j).flatMap a0d = []:=fun j=>a03 (b60 _ j)
 have hPr:∀ (π:Nat → Option Nat) j,(pkR (pkF l is) j).map (fun r=>r.map (ren π)) = pkR (pkF l is) j:=fun π j=>a01 π (b60 _ j)
 generalize hLL:pkF l is = LL at hL hz hfin hPf hPr ⊢
 rw [← hfin]
 (refine sv Tryz.f33 ?_;simp only [Tryz.f33,gS])
 (repeat first|simp only [ww]|(apply xa;simp +decide only [go_sem,hw,hmk];rfl;kernel_rfl))
 refine a0l (σ:=Nat) kp33_0 (fun j=>[(0,sl rl (l.map Flt.enc)),(5,.slice 1 0 is.length (some is.length)),(11,.slice 0 0 is.length c),(12,.int .i64 is.length),(13,.int .i64 j)]) (fun j=>[some (.row 1 R),some (.row 5 (pkR LL j))]) (fun j=>is.length - j) (fun j=>j ≤ is.length) 0 ?_ (Nat.zero_le _) ?_
 ·rw [hz]
  (simp +decide only [go_sem,a02,a00,hRf,hRr]<;>rfl)<;>rfl
 ·intro j hj
  have hPl:(pkR LL j).length = is.length:=by rw [d65 LL j (by omega),hL]
  by_cases hlt:j < is.length
  ·obtain ⟨i,hi⟩:∃ i,is[j]? = some i:=⟨_,z9e hlt⟩
   have hil2:=his i (List.mem_of_getElem? hi)
   obtain ⟨f,hf⟩:∃ f,l[i]? = some f:=⟨_,z9e hil2⟩
   have hfe:Flt.enc f = [.int .u8 f.model,.int .i64 f.node,.int .i64 f.pin,.int .u8 f.value,.int .i64 f.other]:=rfl
   have hg:=hget j i hi
   have hp:=d66 (L:=LL) (j:=j) (by omega)
   have hs:=d64 (hLL ▸ c69 hi hf)
   have d1:(j:Int) < is.length:=by omega
   have hwj:=wI1 (n:=j) (by omega)
   rw [hfe] at hs
   unfold zF at hp
   (repeat first|simp only [ww]|(apply xa;simp +decide only [go_sem,d1,hlt,hg,hil2,hf,hfe,hp,hPl,hRl,hwj,hs];rfl;kernel_rfl))
   refine a1m (j + 1) ?_ (by omega) (by omega)
   (simp +decide only [go_sem,a02,a00,hRf,hRr,hPf,hPr]<;>rfl)<;>rfl
  ·obtain rfl:j = is.length:=by omega
   have d1:¬ (is.length:Int) < is.length:=by omega
   (repeat first|simp only [ww]|(apply xa;simp +decide only [go_sem,d1];rfl;kernel_rfl))
   have hT:(pkR LL is.length).take is.length = pkR LL is.length:=List.take_of_length_le (Nat.le_of_eq hPl)
   (apply fqb;simp +decide only [go_sem,hPl,hRr,hT,a0s 1 _ (b60 LL is.length)]<;>rfl)
theorem e1t (c:Rep) (rows:List (Rep × List (BitVec 64))) (T:List (List AV)) (n:Nat) (hT:sl c (rows.map c5m) = .islice T (some n)) (k t:Nat) (ht:t < 100000) :
 sem L.env Mf 35 [.int .i64 t,.ptr 0 0 0,.ptr 1 0 0] [some (.row 1 [[.islice T (some n)]]),some (.row 1 [[.int .i64 k]])] = some (.bool (atB rows k t),[some (.row 1 [[.islice T (some n)]]),some (.row 1 [[.int .i64 k]])]):=by
 have ha:=fun (d:Bool) H=>d89 (d:=d) H c rows k t (by omega)
 rw [hT] at ha
 (refine sv Tryz.f35 ?_;simp only [Tryz.f35,gS])
 (repeat first|simp only [ww]|(apply xa;simp +decide only [go_sem,ha];rfl;kernel_rfl))
 (apply fqb;simp +decide only [go_sem]<;>rfl)
theorem c61 (n i f0 m:Nat) (most:Int) (FR CR:List (List AV)) (T:List (List AV)) (w k:Nat) (tests:Int) (D:Nat → Bool) (hi:i < n) (hFl:FR.length = n) (hCl:CR.length = n) (hn:n ≤ 80)
 (hFf:FlatR FR) (hCf:FlatR CR) (hm:m ≤ 64) (hf0:f0 ≤ 4096) (a0 c0:Int) (hF:FR[i]? = some [.int .i64 (a29 most D f0).1]) (hC:CR[i]? = some [.int .i64 (a29 most D f0).2])
 (hH:∀ t,t < m → sem L.env Mf 35 [.int .i64 t,.ptr 0 0 0,.ptr 1 0 0] [some (.row 1 [[.islice T (some w)]]),some (.row 1 [[.int .i64 k]])] = some (.bool (D (f0 + t)),[some (.row 1 [[.islice T (some w)]]),some (.row 1 [[.int .i64 k]])])) :
 sem L.env Mf 34 [.ptr 0 0 0,.int .i64 i,.int .i64 f0,.int .i64 m,.int .i64 most,.func (.func 35) [] [.ptr 3 0 0,.ptr 4 0 0]]
  [some (.row 3 [[.slice 1 0 n (some n),.slice 2 0 n (some n),.int .i64 tests]]),some (.row 1 FR),some (.row 1 CR),some (.row 1 [[.islice T (some w)]]),some (.row 1 [[.int .i64 k]])] =
 some (.tuple [],[some (.row 3 [[.slice 1 0 n (some n),.slice 2 0 n (some n),.int .i64 tests]]),some (.row 1 (FR.set i [.int .i64 (a29 most D (f0 + m)).1])),some (.row 1 (CR.set i [.int .i64 (a29 most D (f0 + m)).2])),some (.row 1 [[.islice T (some w)]]),some (.row 1 [[.int .i64 k]])]):=by
 have hFs:FR.set i [.int .i64 (a29 most D f0).1] = FR:=by
  apply List.ext_getElem? ; intro j
  by_cases h:i = j
  ·subst h;rw [List.getElem?_set_self (by omega),hF]
  ·rw [List.getElem?_set_ne h]
 have hCs:CR.set i [.int .i64 (a29 most D f0).2] = CR:=by
  apply List.ext_getElem? ; intro j
  by_cases h:i = j
  ·subst h;rw [List.getElem?_set_self (by omega),hC]
  ·rw [List.getElem?_set_ne h]
 have hset:∀ (R:List (List AV)) (x:Int),FlatR R → FlatR (R.set i [.int .i64 x]):=by
  intro R x hR r hr
  rcases List.mem_or_eq_of_mem_set hr with h|h
  ·exact hR r h
  ·subst h;rfl
 have hFq:=fun x=>hset FR x hFf
 have hCq:=fun x=>hset CR x hCf
 have hcl:∀ (X F C:Option AObj) (t:Nat),t < m → a0e L.env false (sem L.env Mf) (.func (.func 35) [] [.ptr 3 0 0,.ptr 4 0 0]) [.int .i64 t] [X,F,C,some (.row 1 [[.islice T (some w)]]),some (.row 1 [[.int .i64 k]])] = some (.bool (D (f0 + t)),[X,F,C,some (.row 1 [[.islice T (some w)]]),some (.row 1 [[.int .i64 k]])],[3,4]):=by
  intro X F C t ht
  refine a38 [3,4] (by kernel_rfl) (by kernel_rfl) rfl (by simp +decide only [go_sem]) rfl (by simp +decide only [go_sem]) ?_ rfl rfl (hH t ht) rfl
  intro c hc
  simp only [List.mem_cons,List.not_mem_nil,or_false] at hc
  rcases hc with rfl|rfl<;>exact FlatO.row (fun r hr=>by simp only [List.mem_singleton] at hr;subst hr;rfl)
 (refine sv Tryz.f34 ?_;simp only [Tryz.f34,gS])
 (repeat first|simp only [ww]|(apply xa;simp +decide only [go_sem];rfl;kernel_rfl))
 refine a0l (σ:=Nat) kp34_0 (fun t=>[(0,.ptr 0 0 0),(1,.int .i64 i),(2,.int .i64 f0),(4,.int .i64 most),(5,.func (.func 35) [] [.ptr 3 0 0,.ptr 4 0 0]),(13,.int .i64 m),(14,.int .i64 t)])
  (fun t=>[some (.row 3 [[.slice 1 0 n (some n),.slice 2 0 n (some n),.int .i64 tests]]),some (.row 1 (FR.set i [.int .i64 (a29 most D (f0 + t)).1])),some (.row 1 (CR.set i [.int .i64 (a29 most D (f0 + t)).2])),some (.row 1 [[.islice T (some w)]]),some (.row 1 [[.int .i64 k]])]) (fun t=>m - t) (fun t=>t ≤ m) 0 ?_ (Nat.zero_le _) ?_
 ·rw [Nat.add_zero,hFs,hCs]
  (simp +decide only [go_sem,a02,a00,a03 hFf,a03 hCf,a01 _ hFf,a01 _ hCf]<;>rfl)<;>rfl
 ·intro t ht
  by_cases hlt:t < m
  ·have d1:(t:Int) < m:=by omega
   have hwt:=wI1 (n:=t) (by omega)
   have hw01:IntKind.i64.wrap (0 + 1) = 1:=by decide
   have hst:a29 most D (f0 + (t + 1)) = if (a29 most D (f0 + t)).2 < most ∧ D (f0 + t) = true then (if (a29 most D (f0 + t)).2 = 0 then ((f0 + t:Nat):Int) else (a29 most D (f0 + t)).1,(a29 most D (f0 + t)).2 + 1) else a29 most D (f0 + t):=rfl
   have hcn:=a96 most D (f0 + t)
   have hcl:=fun X F C=>hcl X F C t hlt
   have hFl2:∀ x,(FR.set i x).length = n:=fun x=>by rw [List.length_set,hFl]
   have hCl2:∀ x,(CR.set i x).length = n:=fun x=>by rw [List.length_set,hCl]
   have hFg:∀ x,(FR.set i x)[i]? = some x:=fun x=>List.getElem?_set_self (by omega)
   have hCg:∀ x,(CR.set i x)[i]? = some x:=fun x=>List.getElem?_set_self (by omega)
   by_cases c1:(a29 most D (f0 + t)).2 < most
   ·by_cases hD:D (f0 + t) = true
    ·have hwa:IntKind.i64.wrap ((f0:Int) + t) = ((f0 + t:Nat):Int):=by rw [w64 (by omega) (by omega)];omega
     have hwb:IntKind.i64.wrap ((a29 most D (f0 + t)).2 + 1) = (a29 most D (f0 + t)).2 + 1:=w64 (by omega) (by omega)
     rw [hD] at hcl
     by_cases c2:(a29 most D (f0 + t)).2 = 0
     ·rw [if_pos ⟨c1,hD⟩,if_pos c2] at hst
      have c0:0 < most:=by omega
      (repeat first|simp only [ww]|(apply xa;simp +decide only [go_sem,d1,c0,c1,hcl,c2,hwt,hw01,hi,hFl2,hCl2,hFg,hCg,hwa,hwb,List.set_set];rfl;kernel_rfl))
      refine a1m (t + 1) ?_ (by omega) (by omega)
      rw [hst]
      (simp +decide only [go_sem,a02,a00,a03 (hFq _),a03 (hCq _),a01 _ (hFq _),a01 _ (hCq _),c2]<;>rfl)<;>rfl
     ·rw [if_pos ⟨c1,hD⟩,if_neg c2] at hst
      (repeat first|simp only [ww]|(apply xa;simp +decide only [go_sem,d1,c1,hcl,c2,hwt,hw01,hi,hFl2,hCl2,hFg,hCg,hwa,hwb,List.set_set];rfl;kernel_rfl))
      refine a1m (t + 1) ?_ (by omega) (by omega)
      rw [hst]
      (simp +decide only [go_sem,a02,a00,a03 (hFq _),a03 (hCq _),a01 _ (hFq _),a01 _ (hCq _)]<;>rfl)<;>rfl
    ·rw [if_neg (fun h=>hD h.2)] at hst
     have hD:D (f0 + t) = false:=by simpa using hD
     rw [hD] at hcl
     (repeat first|simp only [ww]|(apply xa;simp +decide only [go_sem,d1,c1,hcl,hwt,hi,hFl2,hCl2,hFg,hCg];rfl;kernel_rfl))
     refine a1m (t + 1) ?_ (by omega) (by omega)
     rw [hst]
     (simp +decide only [go_sem,a02,a00,a03 (hFq _),a03 (hCq _),a01 _ (hFq _),a01 _ (hCq _)]<;>rfl)<;>rfl
   ·rw [if_neg (fun h=>c1 h.1)] at hst
    (repeat first|simp only [ww]|(apply xa;simp +decide only [go_sem,d1,c1,hwt,hi,hFl2,hCl2,hFg,hCg];rfl;kernel_rfl))
    refine a1m (t + 1) ?_ (by omega) (by omega)
    rw [hst]
    (simp +decide only [go_sem,a02,a00,a03 (hFq _),a03 (hCq _),a01 _ (hFq _),a01 _ (hCq _)]<;>rfl)<;>rfl
  ·obtain rfl:t = m:=by omega
   have d1:¬ (t:Int) < t:=by omega
   have h0:a45 [] = .tuple []:=rfl
   (repeat first|simp only [ww]|(apply xa;simp +decide only [go_sem,d1];rfl;kernel_rfl))
   (apply fqb;simp +decide only [go_sem,h0,a01 _ (hFq _),a01 _ (hCq _)]<;>rfl)
theorem e29 (n i:Nat) (most tests v:Int) (FR CR:List (List AV)) (hFf:FlatR FR) (hCf:FlatR CR) (hi:i < n) (hCl:CR.length = n) (hC:CR[i]? = some [.int .i64 v]) :
 sem L.env Mf 38 [.int .i64 i,.ptr 0 0 0,.ptr 3 0 0] [some (.row 3 [[.slice 1 0 n (some n),.slice 2 0 n (some n),.int .i64 tests]]),some (.row 1 FR),some (.row 1 CR),some (.row 1 [[.int .i64 most]])] = some (.bool (decide (v = most)),[some (.row 3 [[.slice 1 0 n (some n),.slice 2 0 n (some n),.int .i64 tests]]),some (.row 1 FR),some (.row 1 CR),some (.row 1 [[.int .i64 most]])]):=by
 have hFr:=fun π=>a01 π hFf
 have hCr:=fun π=>a01 π hCf
 (refine sv Tryz.f38 ?_;simp only [Tryz.f38,gS])
 (repeat first|simp only [ww]|(apply xa;simp +decide only [go_sem,hi,hCl,hC];rfl;kernel_rfl))
 (apply fqb;simp +decide only [go_sem,hFr,hCr]<;>rfl)
theorem c2g {d:Bool} (Y:Option AObj) (n i:Nat) (most tests v:Int) (FR CR:List (List AV)) (hFf:FlatR FR) (hCf:FlatR CR) (hi:i < n) (hCl:CR.length = n) (hC:CR[i]? = some [.int .i64 v]) :
 a0e L.env d (sem L.env Mf) (.func (.func 38) [] [.ptr 1 0 0,.ptr 4 0 0]) [.int .i64 i] [Y,some (.row 3 [[.slice 2 0 n (some n),.slice 3 0 n (some n),.int .i64 tests]]),some (.row 1 FR),some (.row 1 CR),some (.row 1 [[.int .i64 most]])] = some (.bool (decide (v = most)),[Y,some (.row 3 [[.slice 2 0 n (some n),.slice 3 0 n (some n),.int .i64 tests]]),some (.row 1 FR),some (.row 1 CR),some (.row 1 [[.int .i64 most]])],[1,2,3,4]):=by
 have hFr:=fun π=>a01 π hFf
 have hCr:=fun π=>a01 π hCf
 have hF0:=a03 hFf
 have hC0:=a03 hCf
 have hc:=a0y (sem L.env Mf 38) [.int .i64 i,.ptr 1 0 0,.ptr 4 0 0] [Y,some (.row 3 [[.slice 2 0 n (some n),.slice 3 0 n (some n),.int .i64 tests]]),some (.row 1 FR),some (.row 1 CR),some (.row 1 [[.int .i64 most]])] (σ:=[1,2,3,4]) (by simp +decide only [go_sem,hF0,hC0]) rfl rfl (args':=[.int .i64 i,.ptr 0 0 0,.ptr 3 0 0]) rfl (H0:=[some (.row 3 [[.slice 1 0 n (some n),.slice 2 0 n (some n),.int .i64 tests]]),some (.row 1 FR),some (.row 1 CR),some (.row 1 [[.int .i64 most]])]) (by simp only [a1n,List.map_cons,List.map_nil,a04,List.getElem?_cons_succ,List.getElem?_cons_zero,Option.join_some,Option.map_some,a0m,hFr,hCr];rfl) (e29 n i most tests v FR CR hFf hCf hi hCl hC)
 refine a23 (by kernel_rfl) (by kernel_rfl) rfl (hc.trans ?_) rfl
 simp +decide only [go_sem,hFr,hCr]<;>rfl
theorem d1t (n:Nat) (most tests:Int) (cv:Nat → Int) (FR CR R:List (List AV)) (is:List Nat) (c:Option Nat) (hFf:FlatR FR) (hCf:FlatR CR) (hRf:FlatR R) (hCl:CR.length = n) (hC:∀ i,i < n → CR[i]? = some [.int .i64 (cv i)])
 (his:∀ i ∈ is,i < n) (hil:is.length ≤ 1000) (hRl:is.length ≤ R.length) (hR:∀ (j i:Nat),is[j]? = some i → R[j]? = some [AV.int .i64 (i:Int)]) :
 ∃ r:AV × a06,((r = (.int .i64 (-1),[some (.row 1 R),some (.row 3 [[.slice 2 0 n (some n),.slice 3 0 n (some n),.int .i64 tests]]),some (.row 1 FR),some (.row 1 CR),some (.row 1 [[.int .i64 most]])]) ∧ ∀ i ∈ is,cv i ≠ most) ∨ ∃ j i,r = (.int .i64 (j:Nat),[some (.row 1 R),some (.row 3 [[.slice 2 0 n (some n),.slice 3 0 n (some n),.int .i64 tests]]),some (.row 1 FR),some (.row 1 CR),some (.row 1 [[.int .i64 most]])]) ∧ is[j]? = some i ∧ cv i = most ∧ ∀ x ∈ is.take j,cv x ≠ most) ∧
  sem L.env Mf 55 [.slice 0 0 is.length c,.func (.func 38) [] [.ptr 1 0 0,.ptr 4 0 0]] [some (.row 1 R),some (.row 3 [[.slice 2 0 n (some n),.slice 3 0 n (some n),.int .i64 tests]]),some (.row 1 FR),some (.row 1 CR),some (.row 1 [[.int .i64 most]])] = some r:=by
 have hFr:=fun π=>a01 π hFf
 have hCr:=fun π=>a01 π hCf
 have hRr:=fun π=>a01 π hRf
 have hF0:=a03 hFf
 have hC0:=a03 hCf
 have hR0:=a03 hRf
 (refine svE Tryz.f55 ?_;simp only [Tryz.f55,gS])
 (repeat first|simp only [ww]|(apply xa;simp +decide only [go_sem];rfl;kernel_rfl))
 refine a0l (σ:=Nat) kp55_0 (fun j=>[(0,.slice 0 0 is.length c),(1,.func (.func 38) [] [.ptr 1 0 0,.ptr 4 0 0]),(7,.int .i64 is.length),(8,.int .i64 j)]) (fun j=>[some (.row 1 R),some (.row 3 [[.slice 2 0 n (some n),.slice 3 0 n (some n),.int .i64 tests]]),some (.row 1 FR),some (.row 1 CR),some (.row 1 [[.int .i64 most]])]) (fun j=>is.length - j) (fun j=>j ≤ is.length ∧ ∀ x ∈ is.take j,cv x ≠ most) 0 ?_ ⟨Nat.zero_le _,fun x h=>by simp at h⟩ ?_
 ·(simp +decide only [go_sem,a02,a00,hF0,hC0,hR0,hFr,hCr,hRr]<;>rfl)<;>rfl
 ·rintro j ⟨hj,hno⟩
  by_cases hlt:j < is.length
  ·obtain ⟨i,hi⟩:∃ i,is[j]? = some i:=⟨_,z9e hlt⟩
   have hin:=his i (List.mem_of_getElem? hi)
   have hg:=hR j i hi
   have hdel:=fun Y=>c2g (d:=false) Y n i most tests (cv i) FR CR hFf hCf hin hCl (hC i hin)
   have d1:(j:Int) < is.length:=by omega
   have hwj:=wI1 (n:=j) (by omega)
   by_cases hd:cv i = most
   ·(repeat first|simp only [ww]|(apply xa;simp +decide only [go_sem,d1,hlt,hRl,hg,hdel,hd];rfl;kernel_rfl))
    (apply c3w;(·simp +decide only [go_sem,hFr,hCr,hRr]<;>rfl))
    exact .inr ⟨j,i,rfl,hi,hd,hno⟩
   ·(repeat first|simp only [ww]|(apply xa;simp +decide only [go_sem,d1,hlt,hRl,hg,hdel,hd,hwj];rfl;kernel_rfl))
    refine a1m (j + 1) ?_ (by omega) ⟨by omega,?_⟩
    ·(simp +decide only [go_sem,a02,a00,hF0,hC0,hR0,hFr,hCr,hRr]<;>rfl)<;>rfl
    ·intro x hx
     rw [List.take_add_one,hi] at hx
     rcases List.mem_append.1 hx with h|h
     ·exact hno x h
     ·simp only [Option.toList,List.mem_singleton] at h;subst h;exact hd
  ·obtain rfl:j = is.length:=by omega
   have d1:¬ (is.length:Int) < is.length:=by omega
   (repeat first|simp only [ww]|(apply xa;simp +decide only [go_sem,d1];rfl;kernel_rfl))
   (apply c3w;(·simp +decide only [go_sem,hFr,hCr,hRr]<;>rfl))
   exact .inl ⟨rfl,by rw [List.take_length] at hno;exact hno⟩
theorem c2k {d:Bool} {g:FuncId} (hx:L.env.ext g = false) (hf:(L.env.fn g).isSome = true) (n k:Nat) (most tests:Int) (FR CR R R':List (List AV)) (c:Option Nat) (v:AV) (hFf:FlatR FR) (hCf:FlatR CR) (hRf:FlatR R) (hRf':FlatR R')
 (hv:∀ m,ren (a18 [0,1,2,3,4] m) v = v) (h:sem L.env Mf g [.slice 0 0 k c,.func (.func 38) [] [.ptr 1 0 0,.ptr 4 0 0]] [some (.row 1 R),some (.row 3 [[.slice 2 0 n (some n),.slice 3 0 n (some n),.int .i64 tests]]),some (.row 1 FR),some (.row 1 CR),some (.row 1 [[.int .i64 most]])] = some (v,[some (.row 1 R'),some (.row 3 [[.slice 2 0 n (some n),.slice 3 0 n (some n),.int .i64 tests]]),some (.row 1 FR),some (.row 1 CR),some (.row 1 [[.int .i64 most]])])) :
 a0e L.env d (sem L.env Mf) (.func (.func g) [] []) [.slice 0 0 k c,.func (.func 38) [] [.ptr 1 0 0,.ptr 4 0 0]] [some (.row 1 R),some (.row 3 [[.slice 2 0 n (some n),.slice 3 0 n (some n),.int .i64 tests]]),some (.row 1 FR),some (.row 1 CR),some (.row 1 [[.int .i64 most]])] = some (v,[some (.row 1 R'),some (.row 3 [[.slice 2 0 n (some n),.slice 3 0 n (some n),.int .i64 tests]]),some (.row 1 FR),some (.row 1 CR),some (.row 1 [[.int .i64 most]])],[0,1,2,3,4]):=by
 have hFr:=fun π=>a01 π hFf
 have hCr:=fun π=>a01 π hCf
 have hRr:=fun π=>a01 π hRf
 have hRr':=fun π=>a01 π hRf'
 have hF0:=a03 hFf
 have hC0:=a03 hCf
 have hR0:=a03 hRf
 have hc:=a0y (sem L.env Mf g) [.slice 0 0 k c,.func (.func 38) [] [.ptr 1 0 0,.ptr 4 0 0]] [some (.row 1 R),some (.row 3 [[.slice 2 0 n (some n),.slice 3 0 n (some n),.int .i64 tests]]),some (.row 1 FR),some (.row 1 CR),some (.row 1 [[.int .i64 most]])] (σ:=[0,1,2,3,4]) (by simp +decide only [go_sem,hF0,hC0,hR0]) rfl rfl (args':=[.slice 0 0 k c,.func (.func 38) [] [.ptr 1 0 0,.ptr 4 0 0]]) rfl (H0:=[some (.row 1 R),some (.row 3 [[.slice 2 0 n (some n),.slice 3 0 n (some n),.int .i64 tests]]),some (.row 1 FR),some (.row 1 CR),some (.row 1 [[.int .i64 most]])]) (by simp only [a1n,List.map_cons,List.map_nil,a04,List.getElem?_cons_succ,List.getElem?_cons_zero,Option.join_some,Option.map_some,a0m,hFr,hCr,hRr];rfl) h
 refine a23 hx hf rfl (hc.trans ?_) rfl
 simp +decide only [go_sem,hFr,hCr,hRr',hv]<;>rfl
def OneR (R:List (List AV)):Prop:=∀ r ∈ R,∃ x:Int,r = [AV.int .i64 x]
theorem OneR.flat {R:List (List AV)} (h:OneR R):FlatR R:=fun r hr=>by obtain ⟨x,rfl⟩:=h r hr;rfl
theorem OneR.app {A B:List (List AV)} (h:OneR A) (k:OneR B):OneR (A ++ B):=fun r hr=>(List.mem_append.1 hr).elim (h r) (k r)
theorem OneR.ints (l:List Nat):OneR (l.map a0n):=fun r hr=>by obtain ⟨x,_,rfl⟩:=List.mem_map.1 hr;exact ⟨x,rfl⟩
theorem OneR.get {R:List (List AV)} (h:OneR R) {i:Nat} (hi:i < R.length):∃ x:Int,R[i]? = some [AV.int .i64 x]:=by
 obtain ⟨x,hx⟩:=h _ (List.getElem_mem hi)
 exact ⟨x,by rw [z9e hi,hx]⟩
theorem OneR.set {R:List (List AV)} (h:OneR R) (i:Nat) (x:Int):OneR (R.set i [.int .i64 x]):=fun r hr=>by
 rcases List.mem_or_eq_of_mem_set hr with h'|h'
 ·exact h r h'
 ·exact ⟨x,h'⟩
theorem OneR.drop {R:List (List AV)} (h:OneR R) (i:Nat):OneR (R.drop i):=fun r hr=>h r (List.mem_of_mem_drop hr)
theorem OneR.rep (n:Nat) (x:Int):OneR (List.replicate n [.int .i64 x]):=fun r hr=>⟨x,List.eq_of_mem_replicate hr⟩
theorem c85 (n:Nat) (most tests:Int) (cv:Nat → Int) (FR CR rest:List (List AV)) (is:List Nat) (c:Option Nat) (hFf:FlatR FR) (hCf:FlatR CR) (hrest:OneR rest) (hCl:CR.length = n) (hC:∀ i,i < n → CR[i]? = some [.int .i64 (cv i)])
 (his:∀ i ∈ is,i < n) (hil:is.length ≤ 1000) (hcc:∀ m,c = some m → is.length ≤ m) :
 ∃ r:AV × a06,(∃ rest',OneR rest' ∧ r = (.slice 0 0 (is.filter fun i=>decide (cv i ≠ most)).length c,[some (.row 1 ((is.filter fun i=>decide (cv i ≠ most)).map a0n ++ rest')),some (.row 3 [[.slice 2 0 n (some n),.slice 3 0 n (some n),.int .i64 tests]]),some (.row 1 FR),some (.row 1 CR),some (.row 1 [[.int .i64 most]])])) ∧
  sem L.env Mf 37 [.slice 0 0 is.length c,.func (.func 38) [] [.ptr 1 0 0,.ptr 4 0 0]] [some (.row 1 (is.map a0n ++ rest)),some (.row 3 [[.slice 2 0 n (some n),.slice 3 0 n (some n),.int .i64 tests]]),some (.row 1 FR),some (.row 1 CR),some (.row 1 [[.int .i64 most]])] = some r:=by
 have hR1:OneR (is.map a0n ++ rest):=(OneR.ints is).app hrest
 have hRf:=hR1.flat
 have hR:∀ (j i:Nat),is[j]? = some i → (is.map a0n ++ rest)[j]? = some [AV.int .i64 (i:Int)]:=by
  intro j i h
  rw [List.getElem?_append_left (by simpa using (List.getElem?_eq_some_iff.1 h).1),List.getElem?_map,h];rfl
 have hRl:is.length ≤ (is.map a0n ++ rest).length:=by simp
 have hRt:(is.map a0n ++ rest).take is.length = is.map a0n:=by rw [List.take_append_of_le_length (by simp),List.take_of_length_le (by simp)]
 have hnot:(∀ i ∈ is,cv i ≠ most) → is.filter (fun i=>decide (cv i ≠ most)) = is:=fun h=>List.filter_eq_self.2 fun i hi=>by simpa using h i hi
 have hkeep:∃ rest',is.map a0n ++ rest = is.map a0n ++ rest' ∧ OneR rest':=⟨rest,rfl,hrest⟩
 generalize hRR:is.map a0n ++ rest = R at hR1 hRf hR hRl hRt hkeep ⊢
 have hFr:=fun π=>a01 π hFf
 have hCr:=fun π=>a01 π hCf
 have hRr:=fun π=>a01 π hRf
 have hF0:=a03 hFf
 have hC0:=a03 hCf
 have hR0:=a03 hRf
 obtain ⟨r,hr,hidx⟩:=d1t n most tests cv FR CR R is c hFf hCf hRf hCl hC his hil hRl hR
 rcases hr with ⟨rfl,hno⟩|⟨j0,i0,rfl,hj0,hi0,hno⟩
 ·have hcall:=c2k (d:=false) (g:=55) (by kernel_rfl) (by kernel_rfl) n is.length most tests FR CR R R c _ hFf hCf hRf hRf (fun _=>rfl) hidx
  rw [hnot hno]
  (refine svE Tryz.f37 ?_;simp only [Tryz.f37,gS])
  (repeat first|simp only [ww]|(apply xa;simp +decide only [go_sem,hcall];rfl;kernel_rfl))
  (apply c3w;(·simp +decide only [go_sem,hFr,hCr,hRr]<;>rfl))
  obtain ⟨rest',h1,h2⟩:=hkeep
  exact ⟨rest',h2,by rw [← h1]⟩
 ·have hcall:=c2k (d:=false) (g:=55) (by kernel_rfl) (by kernel_rfl) n is.length most tests FR CR R R c _ hFf hCf hRf hRf (fun _=>rfl) hidx
  have hj0l:=(List.getElem?_eq_some_iff.1 hj0).1
  have hj1:¬ (j0:Int) = -1:=by omega
  have hw1:=wI1 (n:=j0) (by omega)
  (refine svE Tryz.f37 ?_;simp only [Tryz.f37,gS])
  (repeat first|simp only [ww]|(apply xa;simp +decide only [go_sem,hcall,hj1,hw1];rfl;kernel_rfl))
  have hcl:e2k L.env 35 = some (1,[.int .i64 0]):=by kernel_rfl
  have hfull:∀ (Q:Nat → Bool) (l:List Nat),(∀ x ∈ l,Q x = true) → l.filter Q = l:=fun Q l h=>List.filter_eq_self.2 h
  obtain ⟨P,hP⟩:∃ P:Nat → Bool,P = fun i=>decide (cv i ≠ most):=⟨_,rfl⟩
  rw [← hP]
  have hPt:∀ x,cv x ≠ most → P x = true:=fun x h=>by rw [hP];simpa using h
  have hPf:∀ x,cv x = most → P x = false:=fun x h=>by rw [hP];simpa using h
  have hsn:∀ (j v:Nat),is[j]? = some v → (is.take (j + 1)).filter P = (is.take j).filter P ++ (if P v then [v] else []):=by
   intro j v h
   rw [List.take_add_one,h,List.filter_append]
   cases hv:P v<;>simp [hv]
  refine a24 kp37_0 (fun N F H=>∃ (i j:Nat) (R':List (List AV)),N = is.length - j ∧ F = [(0,.slice 0 0 is.length c),(1,.func (.func 38) [] [.ptr 1 0 0,.ptr 4 0 0]),(5,.int .i64 i),(6,.int .i64 j)] ∧ H = [some (.row 1 R'),some (.row 3 [[.slice 2 0 n (some n),.slice 3 0 n (some n),.int .i64 tests]]),some (.row 1 FR),some (.row 1 CR),some (.row 1 [[.int .i64 most]])] ∧ i < j ∧ j ≤ is.length ∧ R'.length = R.length ∧ OneR R' ∧
   R'.take i = ((is.take j).filter P).map a0n ∧ ((is.take j).filter P).length = i ∧ ∀ x,j ≤ x → R'[x]? = R[x]?) (is.length - (j0 + 1)) ?_ ?_
  ·have hf0:(is.take (j0 + 1)).filter P = is.take j0:=by
    rw [hsn j0 i0 hj0,hfull P _ (fun x hx=>hPt x (hno x hx)),hPf i0 hi0];simp
   refine ⟨[(0,.slice 0 0 is.length c),(1,.func (.func 38) [] [.ptr 1 0 0,.ptr 4 0 0]),(5,.int .i64 j0),(6,.int .i64 (j0 + 1:Nat))],[some (.row 1 R),some (.row 3 [[.slice 2 0 n (some n),.slice 3 0 n (some n),.int .i64 tests]]),some (.row 1 FR),some (.row 1 CR),some (.row 1 [[.int .i64 most]])],by (simp +decide only [go_sem,a02,a00,hF0,hC0,hR0,hFr,hCr,hRr]<;>rfl)<;>rfl,j0,j0 + 1,R,rfl,rfl,rfl,by omega,by omega,rfl,hR1,?_,?_,fun _ _=>rfl⟩
   ·rw [hf0,List.map_take,← hRt,List.take_take,Nat.min_eq_left (by omega)]
   ·rw [hf0,List.length_take];omega
  ·rintro N F1 H1 ⟨i,j,R',rfl,rfl,rfl,hij,hj,hRl',hR1',hRt',hil',hRx⟩
   have hRf':=hR1'.flat
   have hRr':=fun π=>a01 π hRf'
   have hR0':=a03 hRf'
   by_cases hlt:j < is.length
   ·obtain ⟨v,hv⟩:∃ v,is[j]? = some v:=⟨_,z9e hlt⟩
    have hvn:=his v (List.mem_of_getElem? hv)
    have hg:R'[j]? = some [AV.int .i64 (v:Int)]:=by rw [hRx j (Nat.le_refl _)];exact hR j v hv
    have hdel:=fun Y=>c2g (d:=false) Y n v most tests (cv v) FR CR hFf hCf hvn hCl (hC v hvn)
    have d1:(j:Int) < is.length:=by omega
    have hwj:=wI1 (n:=j) (by omega)
    have hlR:is.length ≤ R'.length:=by omega
    by_cases hd:cv v = most
    ·(repeat first|simp only [ww]|(apply xa;simp +decide only [go_sem,d1,hlt,hlR,hg,hdel,hd,hwj];rfl;kernel_rfl))
     refine a12 (is.length - (j + 1)) (by omega) ⟨[(0,.slice 0 0 is.length c),(1,.func (.func 38) [] [.ptr 1 0 0,.ptr 4 0 0]),(5,.int .i64 i),(6,.int .i64 (j + 1:Nat))],[some (.row 1 R'),some (.row 3 [[.slice 2 0 n (some n),.slice 3 0 n (some n),.int .i64 tests]]),some (.row 1 FR),some (.row 1 CR),some (.row 1 [[.int .i64 most]])],by (simp +decide only [go_sem,a02,a00,hF0,hC0,hR0',hFr,hCr,hRr']<;>rfl)<;>rfl,i,j + 1,R',rfl,rfl,rfl,by omega,by omega,hRl',hR1',?_,?_,fun x hx=>hRx x (by omega)⟩
     ·rw [hsn j v hv,hPf v hd,hRt'];simp
     ·rw [hsn j v hv,hPf v hd];simpa using hil'
    ·have hwi:=wI1 (n:=i) (by omega)
     have hit:i < is.length:=by omega
     obtain ⟨y,hgi⟩:=hR1'.get (i:=i) (by omega)
     have hR2:=hR1'.set i v
     have hRr2:=fun π=>a01 π hR2.flat
     have hR02:=a03 hR2.flat
     (repeat first|simp only [ww]|(apply xa;simp +decide only [go_sem,d1,hlt,hlR,hg,hdel,hd,hwj,hwi,hit,hgi];rfl;kernel_rfl))
     refine a12 (is.length - (j + 1)) (by omega) ⟨[(0,.slice 0 0 is.length c),(1,.func (.func 38) [] [.ptr 1 0 0,.ptr 4 0 0]),(5,.int .i64 (i + 1:Nat)),(6,.int .i64 (j + 1:Nat))],[some (.row 1 (R'.set i [.int .i64 v])),some (.row 3 [[.slice 2 0 n (some n),.slice 3 0 n (some n),.int .i64 tests]]),some (.row 1 FR),some (.row 1 CR),some (.row 1 [[.int .i64 most]])],by (simp +decide only [go_sem,a02,a00,hF0,hC0,hR02,hFr,hCr,hRr2]<;>rfl)<;>rfl,i + 1,j + 1,_,rfl,rfl,rfl,by omega,by omega,by rw [List.length_set];exact hRl',hR2,?_,?_,fun x hx=>by rw [List.getElem?_set_ne (by omega)];exact hRx x (by omega)⟩
     ·rw [hsn j v hv,hPt v hd,List.take_add_one,List.getElem?_set_self (by omega),List.take_set_of_le (Nat.le_refl i),hRt'];simp;rfl
     ·rw [hsn j v hv,hPt v hd];simpa using hil'
   ·obtain rfl:j = is.length:=by omega
    have d1:¬ (is.length:Int) < is.length:=by omega
    have d2:¬ is.length - i = 0:=by omega
    have d3:i + (is.length - i) ≤ R'.length:=by omega
    have d4:i ≤ is.length:=by omega
    have hcap:i ≤ a14 is.length c:=by
     cases c with
     | none=>exact d4
     | some m=>have:=hcc m rfl;show i ≤ m;omega
    rw [List.take_length] at hRt' hil'
    have hrest2:OneR (List.replicate (is.length - i) [AV.int .i64 0] ++ R'.drop (i + (is.length - i))):=(OneR.rep _ _).app (hR1'.drop _)
    (repeat first|simp only [ww]|(apply xa;simp +decide only [go_sem,d1,d2,d3,d4,hcl,hcap,hRt',List.append_assoc];rfl;kernel_rfl))
    have hfin:=a01 (a19 5) ((OneR.ints (is.filter P)).app hrest2).flat
    (apply c3w;(·simp +decide only [go_sem,hFr,hCr,hfin]<;>rfl))
    exact ⟨_,hrest2,by rw [hil']⟩
def c2f (c:Cir) (ord:List Nat) (l:List Flt) (ts:List Pat) (i t:Nat):Bool:=match l[i]?,ts[t]? with
 | some f,some p=>(a2i c ord).det f p
 | _,_=>false
def a9i (most:Int) (D:Nat → Nat → Bool) (n:Nat) (g:Nat → Nat):List (List AV):=(List.range n).map fun i=>[AV.int .i64 (a29 most (D i) (g i)).1]
def a92 (most:Int) (D:Nat → Nat → Bool) (n:Nat) (g:Nat → Nat):List (List AV):=(List.range n).map fun i=>[AV.int .i64 (a29 most (D i) (g i)).2]
section
variable {most:Int} {D:Nat → Nat → Bool} {n:Nat} {g:Nat → Nat}
theorem a8i:(a9i most D n g).length = n:=by simp [a9i]
theorem a60:(a92 most D n g).length = n:=by simp [a92]
theorem b5u {i:Nat} (h:i < n):(a9i most D n g)[i]? = some [AV.int .i64 (a29 most (D i) (g i)).1]:=by simp [a9i,h]
theorem a8j {i:Nat} (h:i < n):(a92 most D n g)[i]? = some [AV.int .i64 (a29 most (D i) (g i)).2]:=by simp [a92,h]
theorem rowF_one:OneR (a9i most D n g):=fun r hr=>by obtain ⟨i,_,rfl⟩:=List.mem_map.1 hr;exact ⟨_,rfl⟩
theorem rowC_one:OneR (a92 most D n g):=fun r hr=>by obtain ⟨i,_,rfl⟩:=List.mem_map.1 hr;exact ⟨_,rfl⟩
theorem d0f {i m:Nat} (h:i < n):(a9i most D n g).set i [AV.int .i64 (a29 most (D i) m).1] = a9i most D n (fun x=>if x = i then m else g x):=by
 apply List.ext_getElem?
 intro x
 by_cases hx:x < n
 ·rw [b5u hx]
  by_cases hxi:i = x
  ·subst hxi;rw [List.getElem?_set_self (by rw [a8i];exact h)];simp
  ·rw [List.getElem?_set_ne hxi,b5u hx,if_neg (fun e=>hxi e.symm)]
 ·rw [List.getElem?_eq_none (by rw [List.length_set,a8i];omega),List.getElem?_eq_none (by rw [a8i];omega)]
theorem d0i {i m:Nat} (h:i < n):(a92 most D n g).set i [AV.int .i64 (a29 most (D i) m).2] = a92 most D n (fun x=>if x = i then m else g x):=by
 apply List.ext_getElem?
 intro x
 by_cases hx:x < n
 ·rw [a8j hx]
  by_cases hxi:i = x
  ·subst hxi;rw [List.getElem?_set_self (by rw [a60];exact h)];simp
  ·rw [List.getElem?_set_ne hxi,a8j hx,if_neg (fun e=>hxi e.symm)]
 ·rw [List.getElem?_eq_none (by rw [List.length_set,a60];omega),List.getElem?_eq_none (by rw [a60];omega)]
theorem d0h {g':Nat → Nat} (h:∀ i,i < n → (a29 most (D i) (g i)) = a29 most (D i) (g' i)):a9i most D n g = a9i most D n g':=by
 unfold a9i;exact List.map_congr_left fun i hi=>by rw [h i (List.mem_range.1 hi)]
theorem d0j {g':Nat → Nat} (h:∀ i,i < n → (a29 most (D i) (g i)) = a29 most (D i) (g' i)):a92 most D n g = a92 most D n g':=by
 unfold a92;exact List.map_congr_left fun i hi=>by rw [h i (List.mem_range.1 hi)]
theorem c5l:a9i most D n (fun _=>0) = List.replicate n [AV.int .i64 (-1)]:=by
 unfold a9i a29;rw [List.map_const',List.length_range]
theorem c5n:a92 most D n (fun _=>0) = List.replicate n [AV.int .i64 0]:=by
 unfold a92 a29;rw [List.map_const',List.length_range]
end
def stay (most:Int) (D:Nat → Nat → Bool) (n t:Nat):List Nat:=(List.range n).filter fun i=>decide ((a29 most (D i) t).2 ≠ most)
theorem d5a {most:Int} {D:Nat → Nat → Bool} {n t i:Nat} (h:i ∈ stay most D n t):i < n:=List.mem_range.1 (List.mem_filter.1 h).1
theorem c2x (most:Int) (D:Nat → Nat → Bool) (n t:Nat):(stay most D n t).Nodup:=List.Pairwise.filter _ List.nodup_range
theorem b7e {most:Int} (hm:1 ≤ most) (D:Nat → Nat → Bool) (n:Nat):stay most D n 0 = List.range n:=by
 unfold stay a29
 exact List.filter_eq_self.2 fun i _=>by simp;omega
theorem c5a {most:Int} {D:Nat → Nat → Bool} {n t s:Nat} (h:t ≤ s):(stay most D n t).filter (fun i=>decide ((a29 most (D i) s).2 ≠ most)) = stay most D n s:=by
 unfold stay
 rw [List.filter_filter]
 refine List.filter_congr fun i _=>?_
 by_cases h1:(a29 most (D i) t).2 = most
 ·have:=b6b h1 (s - t)
  rw [show t + (s - t) = s by omega] at this
  simp [this,h1]
 ·simp [h1]
theorem d04 {most:Int} {D:Nat → Nat → Bool} {n t s i:Nat} (hi:i < n) (hn:i ∉ stay most D n t) (h:t ≤ s):a29 most (D i) s = a29 most (D i) t:=by
 have h1:(a29 most (D i) t).2 = most:=by
  by_cases h2:(a29 most (D i) t).2 = most
  ·exact h2
  ·exact absurd (List.mem_filter.2 ⟨List.mem_range.2 hi,by simpa using h2⟩) hn
 have:=b6b h1 (s - t)
 rwa [show t + (s - t) = s by omega] at this
theorem b5d (A B C:AObj) (n t:Nat) (hn:n ≤ 80):a0e L.env false (sem L.env Mf) (.func (.func 32) [] []) [.int .i64 n,.int .i64 t] [some A,some B,some C] =
 some (.agg [.slice 5 0 n (some n),.slice 6 0 n (some n),.int .i64 t],[some A,some B,some C,some (.row 3 [[.slice 5 0 n (some n),.slice 6 0 n (some n),.int .i64 t]]),some (.row 1 [[.int .i64 (-1)]]),some (.row 1 (List.replicate n [.int .i64 (-1)])),some (.row 1 (List.replicate n [.int .i64 0]))],[]):=by
 have h1:=fun π=>a01 π (OneR.rep n (-1)).flat
 have h2:=fun π=>a01 π (OneR.rep n 0).flat
 have hc:=a0y (sem L.env Mf 32) [.int .i64 n,.int .i64 t] [some A,some B,some C] (σ:=[]) rfl rfl rfl (args':=[.int .i64 n,.int .i64 t]) rfl (H0:=[]) rfl (d2t n t hn)
 refine a5s (by kernel_rfl) (by kernel_rfl) rfl (hc.trans ?_)
 simp +decide only [go_sem,h1,h2]<;>rfl
theorem b9w (A B C Y:AObj) (n i f0 m:Nat) (most:Int) (FR CR:List (List AV)) (T:List (List AV)) (w k:Nat) (tests:Int) (D:Nat → Bool) (hi:i < n) (hFl:FR.length = n) (hCl:CR.length = n) (hn:n ≤ 80)
 (hF1:OneR FR) (hC1:OneR CR) (hm:m ≤ 64) (hf0:f0 ≤ 4096) (hF:FR[i]? = some [.int .i64 (a29 most D f0).1]) (hC:CR[i]? = some [.int .i64 (a29 most D f0).2])
 (hH:∀ t,t < m → sem L.env Mf 35 [.int .i64 t,.ptr 0 0 0,.ptr 1 0 0] [some (.row 1 [[.islice T (some w)]]),some (.row 1 [[.int .i64 k]])] = some (.bool (D (f0 + t)),[some (.row 1 [[.islice T (some w)]]),some (.row 1 [[.int .i64 k]])])) :
 a0e L.env false (sem L.env Mf) (.func (.func 34) [] []) [.ptr 3 0 0,.int .i64 i,.int .i64 f0,.int .i64 m,.int .i64 most,.func (.func 35) [] [.ptr 7 0 0,.ptr 8 0 0]]
  [some A,some B,some C,some (.row 3 [[.slice 4 0 n (some n),.slice 5 0 n (some n),.int .i64 tests]]),some (.row 1 FR),some (.row 1 CR),some Y,some (.row 1 [[.islice T (some w)]]),some (.row 1 [[.int .i64 k]])] =
 some (.tuple [],[some A,some B,some C,some (.row 3 [[.slice 4 0 n (some n),.slice 5 0 n (some n),.int .i64 tests]]),some (.row 1 (FR.set i [.int .i64 (a29 most D (f0 + m)).1])),some (.row 1 (CR.set i [.int .i64 (a29 most D (f0 + m)).2])),some Y,some (.row 1 [[.islice T (some w)]]),some (.row 1 [[.int .i64 k]])],[3,4,5,7,8]):=by
 have r1:=fun π=>a01 π hF1.flat
 have r2:=fun π=>a01 π hC1.flat
 have r3:=fun π=>a01 π (hF1.set i (a29 most D (f0 + m)).1).flat
 have r4:=fun π=>a01 π (hC1.set i (a29 most D (f0 + m)).2).flat
 have z1:=a03 hF1.flat
 have z2:=a03 hC1.flat
 have hr:=c61 n i f0 m most FR CR T w k tests D hi hFl hCl hn hF1.flat hC1.flat hm hf0 0 0 hF hC hH
 have hc:=a0y (sem L.env Mf 34) [.ptr 3 0 0,.int .i64 i,.int .i64 f0,.int .i64 m,.int .i64 most,.func (.func 35) [] [.ptr 7 0 0,.ptr 8 0 0]]
  [some A,some B,some C,some (.row 3 [[.slice 4 0 n (some n),.slice 5 0 n (some n),.int .i64 tests]]),some (.row 1 FR),some (.row 1 CR),some Y,some (.row 1 [[.islice T (some w)]]),some (.row 1 [[.int .i64 k]])] (σ:=[3,4,5,7,8]) (by simp +decide only [go_sem,z1,z2]) rfl rfl
  (args':=[.ptr 0 0 0,.int .i64 i,.int .i64 f0,.int .i64 m,.int .i64 most,.func (.func 35) [] [.ptr 3 0 0,.ptr 4 0 0]]) rfl
  (H0:=[some (.row 3 [[.slice 1 0 n (some n),.slice 2 0 n (some n),.int .i64 tests]]),some (.row 1 FR),some (.row 1 CR),some (.row 1 [[.islice T (some w)]]),some (.row 1 [[.int .i64 k]])]) (by simp only [a1n,List.map_cons,List.map_nil,a04,List.getElem?_cons_succ,List.getElem?_cons_zero,Option.join_some,Option.map_some,a0m,r1,r2];rfl) hr
 refine a23 (by kernel_rfl) (by kernel_rfl) rfl (hc.trans ?_) rfl
 simp +decide only [go_sem,r3,r4]<;>rfl
theorem d71 (c:Cir) (ord:List Nat) (l:List Flt) (ts:List Pat) (hp:∀ p ∈ ts,PatOk c.nodes p) (is:List Nat) (b k i t:Nat) (hk:is[k]? = some i) (hi:i < l.length) (ht:t < (a3k ts b).length) (htl:ts.length ≤ 100) (n:Nat) (hn:n = (pkF l is).length) :
 sem L.env Mf 35 [.int .i64 t,.ptr 0 0 0,.ptr 1 0 0] [some (.row 1 [[.islice ((a5g c ord (pkF l is) (a3k ts b)).map c5m) (some n)]]),some (.row 1 [[.int .i64 k]])] = some (.bool (c2f c ord l ts i (64 * b + t)),[some (.row 1 [[.islice ((a5g c ord (pkF l is) (a3k ts b)).map c5m) (some n)]]),some (.row 1 [[.int .i64 k]])]):=by
 obtain ⟨f,hf⟩:∃ f,l[i]? = some f:=⟨_,z9e hi⟩
 obtain ⟨p,hpp⟩:∃ p,(a3k ts b)[t]? = some p:=⟨_,z9e ht⟩
 have htl2:t < 64:=Nat.lt_of_lt_of_le ht (a6w ts b)
 have h1:=e1t (some (some n)) (a5g c ord (pkF l is) (a3k ts b)) _ n (a2v _ _) k t (by omega)
 rw [d8a c ord (pkF l is) (a3k ts b) (fun p h=>hp p (a88 h)) k t f (c69 hk hf),hpp] at h1
 have h2:c2f c ord l ts i (64 * b + t) = (a2i c ord).det f p:=by
  unfold c2f
  rw [hf,← b8u htl2,hpp]
 rw [h2]
 exact h1
theorem c0h (A C Y:AObj) (n:Nat) (most tests:Int) (cv:Nat → Int) (FR CR rest:List (List AV)) (is:List Nat) (hF1:OneR FR) (hC1:OneR CR) (hrest:OneR rest) (hCl:CR.length = n) (hC:∀ i,i < n → CR[i]? = some [.int .i64 (cv i)])
 (his:∀ i ∈ is,i < n) (hil:is.length ≤ 1000) :
 ∃ rest',OneR rest' ∧ a0e L.env false (sem L.env Mf) (.func (.func 37) [] []) [.slice 6 0 is.length none,.func (.func 38) [] [.ptr 3 0 0,.ptr 1 0 0]]
  [some A,some (.row 1 [[.int .i64 most]]),some C,some (.row 3 [[.slice 4 0 n (some n),.slice 5 0 n (some n),.int .i64 tests]]),some (.row 1 FR),some (.row 1 CR),some (.row 1 (is.map a0n ++ rest)),some Y] =
  some (.slice 6 0 (is.filter fun i=>decide (cv i ≠ most)).length none,[some A,some (.row 1 [[.int .i64 most]]),some C,some (.row 3 [[.slice 4 0 n (some n),.slice 5 0 n (some n),.int .i64 tests]]),some (.row 1 FR),some (.row 1 CR),some (.row 1 ((is.filter fun i=>decide (cv i ≠ most)).map a0n ++ rest')),some Y],[6,3,4,5,1]):=by
 obtain ⟨r,⟨rest',hr1,rfl⟩,hr⟩:=c85 n most tests cv FR CR rest is none hF1.flat hC1.flat hrest hCl hC his hil (fun m h=>by cases h)
 have r1:=fun π=>a01 π hF1.flat
 have r2:=fun π=>a01 π hC1.flat
 have r3:=fun π=>a01 π ((OneR.ints is).app hrest).flat
 have r4:=fun π=>a01 π ((OneR.ints (is.filter fun i=>decide (cv i ≠ most))).app hr1).flat
 have z1:=a03 hF1.flat
 have z2:=a03 hC1.flat
 have z3:=a03 ((OneR.ints is).app hrest).flat
 refine ⟨rest',hr1,?_⟩
 generalize is.map a0n ++ rest = R0 at *
 generalize (is.filter fun i=>decide (cv i ≠ most)).map a0n ++ rest' = R1 at *
 have hc:=a0y (sem L.env Mf 37) [.slice 6 0 is.length none,.func (.func 38) [] [.ptr 3 0 0,.ptr 1 0 0]]
  [some A,some (.row 1 [[.int .i64 most]]),some C,some (.row 3 [[.slice 4 0 n (some n),.slice 5 0 n (some n),.int .i64 tests]]),some (.row 1 FR),some (.row 1 CR),some (.row 1 R0),some Y] (σ:=[6,3,4,5,1]) (by simp +decide only [go_sem,z1,z2,z3]) rfl rfl
  (args':=[.slice 0 0 is.length none,.func (.func 38) [] [.ptr 1 0 0,.ptr 4 0 0]]) rfl
  (H0:=[some (.row 1 R0),some (.row 3 [[.slice 2 0 n (some n),.slice 3 0 n (some n),.int .i64 tests]]),some (.row 1 FR),some (.row 1 CR),some (.row 1 [[.int .i64 most]])]) (by simp only [a1n,List.map_cons,List.map_nil,a04,List.getElem?_cons_succ,List.getElem?_cons_zero,Option.join_some,Option.map_some,a0m,r1,r2,r3];rfl) hr
 refine a23 (by kernel_rfl) (by kernel_rfl) rfl (hc.trans ?_) rfl
 simp +decide only [go_sem,r1,r2,r4]<;>rfl
set_option maxHeartbeats 200000000
theorem d6n (c:Cir) (h:c.wf) (rl rt:Rep) (l:List Flt) (ts:List Pat) (most:Int) (hm1:1 ≤ most) (hm2:most < 9223372036854775808) (hn0:0 < l.length) (hll:l.length ≤ 80) (htl:ts.length ≤ 100) (hf:∀ f ∈ l,FltOk c.nodes f) (hp:∀ p ∈ ts,PatOk c.nodes p) (ord:List Nat) (hop:ord.Perm (List.range c.nodes.length))
 (hst:∀ (d:Bool) (H:a06),a0e L.env d (sem L.env Mf) (.func (.func 51) [] []) [.agg c.enc] H = some (.agg (a4u c ord net0V pin0V),H,[])) :
 sem L.env Mf 21 [.agg c.enc,sl rl (l.map Flt.enc),sl rt (ts.map Pat.enc),.int .i64 most] [] =
  some (.agg [.islice (a9i most (c2f c ord l ts) l.length fun _=>ts.length) (some l.length),.islice (a92 most (c2f c ord l ts) l.length fun _=>ts.length) (some l.length),.int .i64 ts.length],[]):=by
 have hce:c.enc = [sl c.nc (c.nodes.map Nd.enc),sl c.mc (c.names.map a44),.nilslice,sl c.oc (c.outs.map a0n)]:=rfl
 obtain ⟨n,hn⟩:∃ n,n = l.length:=⟨_,rfl⟩
 rw [← hn]
 have hbl:=fun A B C=>b5d A B C n ts.length (by omega)
 have hml:∀ f:List Flt,(f.map Flt.enc).length = f.length:=fun f=>List.length_map _
 rw [← hn] at hn0 hll
 rw [hce]
 (refine sv Tryz.f21 ?_;simp only [Tryz.f21,gS])
 (repeat first|simp only [ww]|(apply xa;simp +decide only [go_sem,hbl,← hn,List.length_map];rfl;kernel_rfl))
 have f1:=(OneR.rep n (-1)).flat
 have f2:=(OneR.rep n 0).flat
 have f3:=fun i=>(OneR.ints (List.range i)).flat
 have r1:=fun π=>a01 π f1
 have r2:=fun π=>a01 π f2
 have r3:=fun π i=>a01 π (f3 i)
 have z1:=a03 f1
 have z2:=a03 f2
 have z3:=fun i=>a03 (f3 i)
 refine a0l (m:=0) (σ:=Nat) kp21_0 (fun i=>[(1,sl rl (l.map Flt.enc)),(2,sl rt (ts.map Pat.enc)),(4,.ptr 0 0 0),(7,.ptr 1 0 0),(8,.ptr 2 0 0),(9,.ptr 3 0 0),(10,grV 6 ((List.range i).map a0n)),(25,.int .i64 n),(26,.int .i64 i)])
  (fun i=>some (.row 4 [[sl c.nc (c.nodes.map Nd.enc),sl c.mc (c.names.map a44),.nilslice,sl c.oc (c.outs.map a0n)]]) :: some (.row 1 [[.int .i64 most]]) :: some (.row 3 [[.nilslice,.nilslice,.int .i64 0]]) :: some (.row 3 [[.slice 4 0 n (some n),.slice 5 0 n (some n),.int .i64 ts.length]]) :: some (.row 1 (List.replicate n [.int .i64 (-1)])) :: some (.row 1 (List.replicate n [.int .i64 0])) :: grH 1 ((List.range i).map a0n)) (fun i=>n - i) (fun i=>i ≤ n) 0 ?_ (Nat.zero_le _) ?_
 ·(simp +decide only [go_sem,a02,a00,z1,z2,r1,r2,List.range_zero,List.map_nil,a0q,a0r]<;>rfl)<;>rfl
 ·intro i hi
  by_cases hlt:i < n
  ·have d1:(i:Int) < n:=by omega
   have hwi:=wI1 (n:=i) (by omega)
   have hrs:(List.range (i + 1)).map a0n = (List.range i).map a0n ++ [[AV.int .i64 (i:Int)]]:=by rw [List.range_succ,List.map_append];rfl
   have hlr:((List.range i).map a0n).length = i:=by simp
   have hrm:i + 1 ≤ 1000000000:=by omega
   by_cases hi0:i = 0
   ·subst hi0
    (repeat first|simp only [ww]|(apply xa;simp +decide only [go_sem,d1,hwi,a0q,a0r,List.range_zero,List.map_nil];rfl;kernel_rfl))
    refine a1m 1 ?_ (by omega) (by omega)
    (simp +decide only [go_sem,a02,a00,z1,z2,r1,r2]<;>rfl)<;>rfl
   ·have hne:(List.range i).map a0n ≠ []:=fun e=>hi0 (by rw [← hlr,e];rfl)
    have e1:=a82 6 hne
    have e2:=a83 1 hne
    rw [e1,e2]
    (repeat first|simp only [ww]|(apply xa;simp +decide only [go_sem,d1,hwi,hlr,hrm,List.length_map,List.length_range];rfl;kernel_rfl))
    refine a1m (i + 1) ?_ (by omega) (by omega)
    simp only [hrs,b1s,b6c,hlr]
    (simp +decide only [go_sem,a02,a00,z1,z2,r1,r2,z3,r3,List.flatMap_append,List.map_append]<;>rfl)<;>rfl
  ·obtain rfl:n = i:=by omega
   have d1:¬ (n:Int) < n:=by omega
   have hlr:((List.range n).map a0n).length = n:=by simp
   have hne:(List.range n).map a0n ≠ []:=fun e=>absurd hn0 (by rw [← hlr,e];simp)
   have e1:=a82 6 hne
   have e2:=a83 1 hne
   rw [e1,e2,hlr]
   have hq1:IntKind.i64.wrap ((ts.length:Int) + 64) = ((ts.length + 64:Nat):Int):=by rw [w64 (by omega) (by omega)];omega
   have hq2:IntKind.i64.wrap (((ts.length + 64:Nat):Int) - 1) = ((ts.length + 63:Nat):Int):=by rw [w64 (by omega) (by omega)];omega
   have hq3:IntKind.i64.wrap (((ts.length + 63) / 64:Nat):Int) = (((ts.length + 63) / 64:Nat):Int):=w64 (by omega) (by omega)
   (repeat first|simp only [ww]|(apply xa;simp +decide only [go_sem,d1,hq1,hq2,hq3,List.length_map];rfl;kernel_rfl))
   obtain ⟨D,hD⟩:∃ D,D = c2f c ord l ts:=⟨_,rfl⟩
   rw [← hD]
   obtain ⟨w,hw⟩:∃ w,w = (ts.length + 63) / 64:=⟨_,rfl⟩
   rw [← hw]
   obtain ⟨tb,htb⟩:∃ tb:Nat → Nat,tb = fun b=>min (64 * b) ts.length:=⟨_,rfl⟩
   have htbv:∀ b,tb b = min (64 * b) ts.length:=fun b=>by rw [htb]
   have htb0:tb 0 = 0:=by rw [htbv];omega
   have htbw:tb w = ts.length:=by rw [htbv];omega
   have hF:=@rowF_one
   have hC:=@rowC_one
   refine a24 (m:=0) kp21_2 (fun N F H=>∃ (b:Nat) (rest:List (List AV)),N = w - b ∧ b ≤ w ∧ OneR rest ∧
    F = [(1,sl rl (l.map Flt.enc)),(2,sl rt (ts.map Pat.enc)),(4,.ptr 0 0 0),(7,.ptr 1 0 0),(8,.ptr 2 0 0),(9,.ptr 3 0 0),(10,.slice 6 0 (stay most D n (tb b)).length none),(38,.int .i64 w),(39,.int .i64 b)] ∧
    H = [some (.row 4 [[sl c.nc (c.nodes.map Nd.enc),sl c.mc (c.names.map a44),.nilslice,sl c.oc (c.outs.map a0n)]]),some (.row 1 [[.int .i64 most]]),some (.row 3 [[.nilslice,.nilslice,.int .i64 0]]),some (.row 3 [[.slice 4 0 n (some n),.slice 5 0 n (some n),.int .i64 ts.length]]),some (.row 1 (a9i most D n fun _=>tb b)),some (.row 1 (a92 most D n fun _=>tb b)),some (.row 1 ((stay most D n (tb b)).map a0n ++ rest))]) w ?_ ?_
   ·refine ⟨[(1,sl rl (l.map Flt.enc)),(2,sl rt (ts.map Pat.enc)),(4,.ptr 0 0 0),(7,.ptr 1 0 0),(8,.ptr 2 0 0),(9,.ptr 3 0 0),(10,.slice 6 0 n none),(38,.int .i64 w),(39,.int .i64 (0:Nat))],[some (.row 4 [[sl c.nc (c.nodes.map Nd.enc),sl c.mc (c.names.map a44),.nilslice,sl c.oc (c.outs.map a0n)]]),some (.row 1 [[.int .i64 most]]),some (.row 3 [[.nilslice,.nilslice,.int .i64 0]]),some (.row 3 [[.slice 4 0 n (some n),.slice 5 0 n (some n),.int .i64 ts.length]]),some (.row 1 (List.replicate n [.int .i64 (-1)])),some (.row 1 (List.replicate n [.int .i64 0])),some (.row 1 ((List.range n).map a0n))],
     by (simp +decide only [go_sem,a02,a00,z1,z2,z3,r1,r2,r3]<;>rfl)<;>rfl,0,[],rfl,Nat.zero_le _,fun r hr=>by simp at hr,?_,?_⟩
    ·rw [htb0,b7e hm1,List.length_range]
    ·rw [htb0,b7e hm1,c5l,c5n,List.append_nil]
   ·rintro N F H ⟨b,rest,rfl,hb,hrest,rfl,rfl⟩
    have hS1:=(OneR.ints (stay most D n (tb b))).app hrest
    by_cases hbw:b < w
    ·have c1:(b:Int) < w:=by omega
     have hbT:64 * b < ts.length:=by omega
     have htbb:tb b = 64 * b:=by rw [htbv];omega
     have htbn:tb (b + 1) = min (64 * b + 64) ts.length:=by rw [htbv];omega
     have hwb:=wI1 (n:=b) (by omega)
     have hwm:IntKind.i64.wrap ((b:Int) * 64) = ((64 * b:Nat):Int):=by rw [w64 (by omega) (by omega)];omega
     have hw64:IntKind.i64.wrap (((64 * b:Nat):Int) + 64) = ((64 * (b + 1):Nat):Int):=by rw [w64 (by omega) (by omega)];omega
     have hmn:(if (ts.length:Int) < ((64 * (b + 1):Nat):Int) then (ts.length:Int) else ((64 * (b + 1):Nat):Int)) = ((min (64 * b + 64) ts.length:Nat):Int):=by split<;>omega
     have hi1:inB ((min (64 * b + 64) ts.length:Nat):Int) ts.length = true:=b4y (by omega)
     have hi2:inB ((64 * b:Nat):Int) (min (64 * b + 64) ts.length) = true:=b4y (by omega)
     have hal1:(ts.map Pat.enc).all (fun r=>decide (r.length = 2)) = true:=by simp [Pat.enc]
     obtain ⟨rp,hrp⟩:=c5e rt (ts.map Pat.enc) (64 * b) (min (64 * b + 64) ts.length)
     rw [← List.map_take,← List.map_drop,b6u ts b hbT] at hrp
     obtain ⟨S,hS⟩:∃ S,S = stay most D n (tb b):=⟨_,rfl⟩
     have hSl:∀ i ∈ S,i < n:=fun i hi=>d5a (hS ▸ hi)
     have hSn:S.length ≤ 80:=by rw [hS];unfold stay;exact Nat.le_trans (List.length_filter_le _ _) (by rw [List.length_range];omega)
     rw [← hS] at hS1 ⊢
     have hpick:∀ (d:Bool),a0e L.env d (sem L.env Mf) (.func (.func 33) [] []) [sl rl (l.map Flt.enc),.slice 6 0 S.length none] [some (.row 4 [[sl c.nc (c.nodes.map Nd.enc),sl c.mc (c.names.map a44),.nilslice,sl c.oc (c.outs.map a0n)]]),some (.row 1 [[.int .i64 most]]),some (.row 3 [[.nilslice,.nilslice,.int .i64 0]]),some (.row 3 [[.slice 4 0 n (some n),.slice 5 0 n (some n),.int .i64 ts.length]]),some (.row 1 (a9i most D n fun _=>tb b)),some (.row 1 (a92 most D n fun _=>tb b)),some (.row 1 (S.map a0n ++ rest))] =
      some (.islice ((pkF l S).map Flt.enc) (some S.length),[some (.row 4 [[sl c.nc (c.nodes.map Nd.enc),sl c.mc (c.names.map a44),.nilslice,sl c.oc (c.outs.map a0n)]]),some (.row 1 [[.int .i64 most]]),some (.row 3 [[.nilslice,.nilslice,.int .i64 0]]),some (.row 3 [[.slice 4 0 n (some n),.slice 5 0 n (some n),.int .i64 ts.length]]),some (.row 1 (a9i most D n fun _=>tb b)),some (.row 1 (a92 most D n fun _=>tb b)),some (.row 1 (S.map a0n ++ rest))],[6]):=by
      intro d
      exact a3f (E:=L.env) (draw:=d) (call:=sem L.env Mf) (fs:=[]) (cs:=[]) (ar:=[sl rl (l.map Flt.enc),.slice 6 0 S.length none]) (b:=6) (o:=.row 1 (S.map a0n ++ rest)) (by kernel_rfl) (by kernel_rfl) rfl rfl (a0t hS1.flat) (FlatO.row hS1.flat) (by simp +decide only [go_sem]) (args':=[sl rl (l.map Flt.enc),.slice 0 0 S.length none]) (by simp only [List.nil_append,List.append_nil,List.map_cons,List.map_nil,a59,c1d]) (d68 l rl S rest none (fun i hi=>by have:=hSl i hi;omega) hrest.flat (by omega)) rfl
     have htab:=fun (d:Bool) H=>a8d (d:=d) H c h (some (some S.length)) rp (pkF l S) (a3k ts b) (by rw [b61];omega) (Nat.le_trans (a6w ts b) (by omega)) (by
      intro f hf'
      unfold pkF at hf'
      obtain ⟨i,hi,rfl⟩:=List.mem_map.1 hf'
      have:=hSl i hi
      rw [List.getD_eq_getElem?_getD,z9e (by omega)]
      exact hf _ (List.getElem_mem _)) (fun p hp'=>hp p (a88 hp')) ord hop hst
     rw [a2v,hce,b61] at htab
     obtain ⟨TT,hTT⟩:∃ TT,TT = (a5g c ord (pkF l S) (a3k ts b)).map c5m:=⟨_,rfl⟩
     rw [← hTT] at htab
     (repeat first|simp only [ww]|(apply xa;simp +decide only [go_sem,c1,hwm,hw64,hmn,hi1,hi2,hal1,hrp,d8l,hpick,htab,List.length_map];rfl;kernel_rfl))
     obtain ⟨g,hg⟩:∃ g:Nat → Nat → Nat,g = fun k x=>if x ∈ S.take k then tb (b + 1) else tb b:=⟨_,rfl⟩
     have hg0:g 0 = fun _=>tb b:=by rw [hg];funext x;simp
     have hm:64 * b + (a3k ts b).length = tb (b + 1):=by rw [htbn];unfold a3k;rw [List.length_take,List.length_drop];omega
     have hcl:=a6w ts b
     have hSnd:S.Nodup:=hS ▸ c2x most D n (tb b)
     refine a0l (m:=0) (σ:=Nat) kp21_4 (fun k=>[(1,sl rl (l.map Flt.enc)),(2,sl rt (ts.map Pat.enc)),(4,.ptr 0 0 0),(7,.ptr 1 0 0),(8,.ptr 2 0 0),(9,.ptr 3 0 0),(10,.slice 6 0 S.length none),(13,.int .i64 (64 * b:Nat)),(14,sl rp ((a3k ts b).map Pat.enc)),(15,.ptr 7 0 0),(38,.int .i64 w),(39,.int .i64 b),(61,.slice 6 0 S.length none),(62,.int .i64 S.length),(63,.int .i64 k)])
      (fun k=>[some (.row 4 [[sl c.nc (c.nodes.map Nd.enc),sl c.mc (c.names.map a44),.nilslice,sl c.oc (c.outs.map a0n)]]),some (.row 1 [[.int .i64 most]]),some (.row 3 [[.nilslice,.nilslice,.int .i64 0]]),some (.row 3 [[.slice 4 0 n (some n),.slice 5 0 n (some n),.int .i64 ts.length]]),some (.row 1 (a9i most D n (g k))),some (.row 1 (a92 most D n (g k))),some (.row 1 (S.map a0n ++ rest)),some (.row 1 [[.islice TT (some S.length)]])]) (fun k=>S.length - k) (fun k=>k ≤ S.length) 0 ?_ (Nat.zero_le _) ?_
     ·rw [hg0]
      (simp +decide only [go_sem,a02,a00,a03 hS1.flat,a03 rowF_one.flat,a03 rowC_one.flat,a01 _ hS1.flat,a01 _ rowF_one.flat,a01 _ rowC_one.flat]<;>rfl)<;>rfl
     ·intro k hk
      by_cases hkl:k < S.length
      ·obtain ⟨i,hi⟩:∃ i,S[k]? = some i:=⟨_,z9e hkl⟩
       have hin:=hSl i (List.mem_of_getElem? hi)
       have hnot:i ∉ S.take k:=by
        intro hmem
        obtain ⟨x,hx⟩:=List.mem_iff_getElem?.1 hmem
        rw [List.getElem?_take] at hx
        split at hx
        ·rename_i hxk
         have:=(List.getElem?_inj (by omega) hSnd).1 (hx.trans hi.symm)
         omega
        ·cases hx
       have hgi:g k i = tb b:=by rw [hg];simp [hnot]
       have hgn:g (k + 1) = fun x=>if x = i then tb (b + 1) else g k x:=by
        rw [hg];funext x
        simp only [List.take_add_one,hi,Option.toList,List.mem_append,List.mem_singleton]
        by_cases h1:x = i
        ·simp [h1]
        ·simp [h1]
       have hRg:(S.map a0n ++ rest)[k]? = some [AV.int .i64 (i:Int)]:=by
        rw [List.getElem?_append_left (by rw [List.length_map];exact hkl),List.getElem?_map,hi];rfl
       have hRl:S.length ≤ (S.map a0n ++ rest).length:=by simp
       have d1:(k:Int) < S.length:=by omega
       have hwk:=wI1 (n:=k) (by omega)
       have hrec:=b9w (.row 4 [[sl c.nc (c.nodes.map Nd.enc),sl c.mc (c.names.map a44),.nilslice,sl c.oc (c.outs.map a0n)]]) (.row 1 [[.int .i64 most]]) (.row 3 [[.nilslice,.nilslice,.int .i64 0]]) (.row 1 (S.map a0n ++ rest)) n i (64 * b) (a3k ts b).length most (a9i most D n (g k)) (a92 most D n (g k)) TT S.length k ts.length (D i) hin a8i a60 (by omega) rowF_one rowC_one hcl (by omega)
        (by rw [b5u hin,hgi,htbb]) (by rw [a8j hin,hgi,htbb]) (by
         intro t ht
         rw [hTT,hD]
         exact d71 c ord l ts hp S b k i t hi (by omega) ht htl S.length (b61 l S).symm)
       rw [hm,d0f hin,d0i hin,← hgn] at hrec
       (repeat first|simp only [ww]|(apply xa;simp +decide only [go_sem,d1,hkl,hRg,hRl,hrec,hwk,List.length_map];rfl;kernel_rfl))
       refine a1m (k + 1) ?_ (by omega) (by omega)
       (simp +decide only [go_sem,a02,a00,a03 hS1.flat,a03 rowF_one.flat,a03 rowC_one.flat,a01 _ hS1.flat,a01 _ rowF_one.flat,a01 _ rowC_one.flat]<;>rfl)<;>rfl
      ·obtain rfl:k = S.length:=by omega
       have d1:¬ (S.length:Int) < S.length:=by omega
       have hle:tb b ≤ tb (b + 1):=by rw [htbv,htbv];omega
       have hgS:∀ i,i < n → a29 most (D i) (g S.length i) = a29 most (D i) (tb (b + 1)):=by
        intro i hi
        rw [hg]
        simp only [List.take_length]
        by_cases hm':i ∈ S
        ·rw [if_pos hm']
        ·rw [if_neg hm',d04 hi (hS ▸ hm') hle]
       rw [d0h (g':=fun _=>tb (b + 1)) hgS,d0j (g':=fun _=>tb (b + 1)) hgS]
       obtain ⟨rest',hr',hdel⟩:=c0h (.row 4 [[sl c.nc (c.nodes.map Nd.enc),sl c.mc (c.names.map a44),.nilslice,sl c.oc (c.outs.map a0n)]]) (.row 3 [[.nilslice,.nilslice,.int .i64 0]]) (.row 1 [[.islice TT (some S.length)]]) n most ts.length (fun i=>(a29 most (D i) (tb (b + 1))).2) (a9i most D n fun _=>tb (b + 1)) (a92 most D n fun _=>tb (b + 1)) rest S rowF_one rowC_one hrest a60 (fun i hi=>a8j hi) hSl (by omega)
       rw [hS,c5a hle,← hS] at hdel
       have hS2:=(OneR.ints (stay most D n (tb (b + 1)))).app hr'
       (repeat first|simp only [ww]|(apply xa;simp +decide only [go_sem,d1,hdel,hwb];rfl;kernel_rfl))
       refine a12 (w - (b + 1)) (by omega) ⟨_,_,?_,b + 1,rest',rfl,by omega,hr',rfl,rfl⟩
       (simp +decide only [go_sem,a02,a00,a03 hS2.flat,a03 rowF_one.flat,a03 rowC_one.flat,a01 _ hS2.flat,a01 _ rowF_one.flat,a01 _ rowC_one.flat]<;>rfl)<;>rfl
    ·obtain rfl:w = b:=by omega
     have c1:¬ (w:Int) < w:=by omega
     have t1:∀ g,(a9i most D n g).take n = a9i most D n g:=fun g=>List.take_of_length_le (by rw [a8i];exact Nat.le_refl _)
     have t2:∀ g,(a92 most D n g).take n = a92 most D n g:=fun g=>List.take_of_length_le (by rw [a60];exact Nat.le_refl _)
     have t3:∀ (d:AV → Option AV) g,a7m 0 d (a9i most D n g) = some (a9i most D n g):=fun d g=>a0s 0 d rowF_one.flat
     have t4:∀ (d:AV → Option AV) g,a7m 0 d (a92 most D n g) = some (a92 most D n g):=fun d g=>a0s 0 d rowC_one.flat
     (repeat first|simp only [ww]|(apply xa;simp +decide only [go_sem,c1];rfl;kernel_rfl))
     (apply fqb;simp +decide only [go_sem,htbw,t1,t2,t3,t4,a8i,a60]<;>rfl)
theorem d0u (rows:List (List AV)) (rl:Rep):sem L.env Mf 33 [sl rl rows,.nilslice] [] = some (.islice [] (some 0),[]):=by
 (refine sv Tryz.f33 ?_;simp only [Tryz.f33,gS])
 have hmk:b9e L.env 68 0 0 = true:=a3i (m:=0) (by omega) (by decide +kernel)
 (repeat first|simp only [ww]|(apply xa;simp +decide only [go_sem,hmk];rfl;kernel_rfl))
 refine a0l (m:=0) (σ:=Nat) kp33_0 (fun j=>[(0,sl rl rows),(5,.slice 0 0 0 (some 0)),(11,.nilslice),(12,.int .i64 0),(13,.int .i64 0)]) (fun j=>[some (.row 5 [])]) (fun j=>0) (fun j=>True) 0 ?_ trivial ?_
 ·(simp +decide only [go_sem,a02,a00]<;>rfl)<;>rfl
 ·intro j _
  (repeat first|simp only [ww]|(apply xa;simp +decide only [go_sem];rfl;kernel_rfl))
  (apply fqb;simp +decide only [go_sem]<;>rfl)
theorem c7b (most tests:Int):sem L.env Mf 55 [.nilslice,.func (.func 38) [] [.ptr 0 0 0,.ptr 3 0 0]] [some (.row 3 [[.slice 1 0 0 (some 0),.slice 2 0 0 (some 0),.int .i64 tests]]),some (.row 1 []),some (.row 1 []),some (.row 1 [[.int .i64 most]])] = some (.int .i64 (-1),[some (.row 3 [[.slice 1 0 0 (some 0),.slice 2 0 0 (some 0),.int .i64 tests]]),some (.row 1 []),some (.row 1 []),some (.row 1 [[.int .i64 most]])]):=by
 (refine sv Tryz.f55 ?_;simp only [Tryz.f55,gS])
 (repeat first|simp only [ww]|(apply xa;simp +decide only [go_sem];rfl;kernel_rfl))
 refine a0l (σ:=Nat) kp55_0 (fun j=>[(0,.nilslice),(1,.func (.func 38) [] [.ptr 0 0 0,.ptr 3 0 0]),(7,.int .i64 0),(8,.int .i64 0)]) (fun j=>[some (.row 3 [[.slice 1 0 0 (some 0),.slice 2 0 0 (some 0),.int .i64 tests]]),some (.row 1 []),some (.row 1 []),some (.row 1 [[.int .i64 most]])]) (fun j=>0) (fun j=>True) 0 ?_ trivial ?_
 ·(simp +decide only [go_sem,a02,a00]<;>rfl)<;>rfl
 ·intro j _
  (repeat first|simp only [ww]|(apply xa;simp +decide only [go_sem];rfl;kernel_rfl))
  (apply fqb;simp +decide only [go_sem]<;>rfl)
theorem c43 (most tests:Int):sem L.env Mf 37 [.nilslice,.func (.func 38) [] [.ptr 0 0 0,.ptr 3 0 0]] [some (.row 3 [[.slice 1 0 0 (some 0),.slice 2 0 0 (some 0),.int .i64 tests]]),some (.row 1 []),some (.row 1 []),some (.row 1 [[.int .i64 most]])] = some (.nilslice,[some (.row 3 [[.slice 1 0 0 (some 0),.slice 2 0 0 (some 0),.int .i64 tests]]),some (.row 1 []),some (.row 1 []),some (.row 1 [[.int .i64 most]])]):=by
 have hc:=a0y (sem L.env Mf 55) [.nilslice,.func (.func 38) [] [.ptr 0 0 0,.ptr 3 0 0]] [some (.row 3 [[.slice 1 0 0 (some 0),.slice 2 0 0 (some 0),.int .i64 tests]]),some (.row 1 []),some (.row 1 []),some (.row 1 [[.int .i64 most]])] (σ:=[0,1,2,3]) (by simp +decide only [go_sem]) rfl rfl (args':=[.nilslice,.func (.func 38) [] [.ptr 0 0 0,.ptr 3 0 0]]) rfl (H0:=[some (.row 3 [[.slice 1 0 0 (some 0),.slice 2 0 0 (some 0),.int .i64 tests]]),some (.row 1 []),some (.row 1 []),some (.row 1 [[.int .i64 most]])]) rfl (c7b most tests)
 have hcall:a0e L.env false (sem L.env Mf) (.func (.func 55) [] []) [.nilslice,.func (.func 38) [] [.ptr 0 0 0,.ptr 3 0 0]] [some (.row 3 [[.slice 1 0 0 (some 0),.slice 2 0 0 (some 0),.int .i64 tests]]),some (.row 1 []),some (.row 1 []),some (.row 1 [[.int .i64 most]])] = some (.int .i64 (-1),[some (.row 3 [[.slice 1 0 0 (some 0),.slice 2 0 0 (some 0),.int .i64 tests]]),some (.row 1 []),some (.row 1 []),some (.row 1 [[.int .i64 most]])],[0,1,2,3]):=a23 (by kernel_rfl) (by kernel_rfl) rfl (hc.trans (by simp +decide only [go_sem]<;>rfl)) rfl
 (refine sv Tryz.f37 ?_;simp only [Tryz.f37,gS])
 (repeat first|simp only [ww]|(apply xa;simp +decide only [go_sem,hcall];rfl;kernel_rfl))
 (apply fqb;simp +decide only [go_sem]<;>rfl)
theorem b8i (A C Y:AObj) (most tests:Int):a0e L.env false (sem L.env Mf) (.func (.func 37) [] []) [.nilslice,.func (.func 38) [] [.ptr 3 0 0,.ptr 1 0 0]]
 [some A,some (.row 1 [[.int .i64 most]]),some C,some (.row 3 [[.slice 4 0 0 (some 0),.slice 5 0 0 (some 0),.int .i64 tests]]),some (.row 1 []),some (.row 1 []),some Y] =
 some (.nilslice,[some A,some (.row 1 [[.int .i64 most]]),some C,some (.row 3 [[.slice 4 0 0 (some 0),.slice 5 0 0 (some 0),.int .i64 tests]]),some (.row 1 []),some (.row 1 []),some Y],[3,4,5,1]):=by
 have hc:=a0y (sem L.env Mf 37) [.nilslice,.func (.func 38) [] [.ptr 3 0 0,.ptr 1 0 0]] [some A,some (.row 1 [[.int .i64 most]]),some C,some (.row 3 [[.slice 4 0 0 (some 0),.slice 5 0 0 (some 0),.int .i64 tests]]),some (.row 1 []),some (.row 1 []),some Y] (σ:=[3,4,5,1]) (by simp +decide only [go_sem]) rfl rfl (args':=[.nilslice,.func (.func 38) [] [.ptr 0 0 0,.ptr 3 0 0]]) rfl (H0:=[some (.row 3 [[.slice 1 0 0 (some 0),.slice 2 0 0 (some 0),.int .i64 tests]]),some (.row 1 []),some (.row 1 []),some (.row 1 [[.int .i64 most]])]) rfl (c43 most tests)
 exact a23 (by kernel_rfl) (by kernel_rfl) rfl (hc.trans (by simp +decide only [go_sem]<;>rfl)) rfl
theorem d13 (c:Cir) (h:c.wf) (rl rt:Rep) (ts:List Pat) (most:Int) (htl:ts.length ≤ 100) (hp:∀ p ∈ ts,PatOk c.nodes p) (ord:List Nat) (hop:ord.Perm (List.range c.nodes.length))
 (hst:∀ (d:Bool) (H:a06),a0e L.env d (sem L.env Mf) (.func (.func 51) [] []) [.agg c.enc] H = some (.agg (a4u c ord net0V pin0V),H,[])) :
 sem L.env Mf 21 [.agg c.enc,sl rl [],sl rt (ts.map Pat.enc),.int .i64 most] [] = some (.agg [.islice [] (some 0),.islice [] (some 0),.int .i64 ts.length],[]):=by
 have hce:c.enc = [sl c.nc (c.nodes.map Nd.enc),sl c.mc (c.names.map a44),.nilslice,sl c.oc (c.outs.map a0n)]:=rfl
 have hbl:=fun A B C=>b5d A B C 0 ts.length (by omega)
 simp only [List.replicate_zero] at hbl
 have hpk:=fun (d:Bool) H=>a05 (E:=L.env) (draw:=d) (call:=sem L.env Mf) (g:=33) (fs:=[]) (cs:=[]) (ar:=[sl rl [],.nilslice]) (H:=H) (by kernel_rfl) (by kernel_rfl) rfl (by simp +decide only [go_sem]) (d0u [] rl) rfl
 rw [hce]
 have hq1:IntKind.i64.wrap ((ts.length:Int) + 64) = ((ts.length + 64:Nat):Int):=by rw [w64 (by omega) (by omega)];omega
 have hq2:IntKind.i64.wrap (((ts.length + 64:Nat):Int) - 1) = ((ts.length + 63:Nat):Int):=by rw [w64 (by omega) (by omega)];omega
 have hq3:IntKind.i64.wrap (((ts.length + 63) / 64:Nat):Int) = (((ts.length + 63) / 64:Nat):Int):=w64 (by omega) (by omega)
 (refine sv Tryz.f21 ?_;simp only [Tryz.f21,gS])
 (repeat first|simp only [ww]|(apply xa;simp +decide only [go_sem,hbl,List.length_map];rfl;kernel_rfl))
 refine a0l (m:=0) (σ:=Nat) kp21_0 (fun i=>[(1,sl rl []),(2,sl rt (ts.map Pat.enc)),(4,.ptr 0 0 0),(7,.ptr 1 0 0),(8,.ptr 2 0 0),(9,.ptr 3 0 0),(10,.nilslice),(25,.int .i64 0),(26,.int .i64 0)])
  (fun i=>[some (.row 4 [[sl c.nc (c.nodes.map Nd.enc),sl c.mc (c.names.map a44),.nilslice,sl c.oc (c.outs.map a0n)]]),some (.row 1 [[.int .i64 most]]),some (.row 3 [[.nilslice,.nilslice,.int .i64 0]]),some (.row 3 [[.slice 4 0 0 (some 0),.slice 5 0 0 (some 0),.int .i64 ts.length]]),some (.row 1 []),some (.row 1 [])]) (fun i=>0) (fun i=>True) 0 ?_ trivial ?_
 ·(simp +decide only [go_sem,a02,a00]<;>rfl)<;>rfl
 ·intro i _
  (repeat first|simp only [ww]|(apply xa;simp +decide only [go_sem,hq1,hq2,hq3,List.length_map];rfl;kernel_rfl))
  obtain ⟨w,hw⟩:∃ w,w = (ts.length + 63) / 64:=⟨_,rfl⟩
  rw [← hw]
  refine a0l (m:=0) (σ:=Nat) kp21_2 (fun b=>[(1,sl rl []),(2,sl rt (ts.map Pat.enc)),(4,.ptr 0 0 0),(7,.ptr 1 0 0),(8,.ptr 2 0 0),(9,.ptr 3 0 0),(10,.nilslice),(38,.int .i64 w),(39,.int .i64 b)]) (fun b=>[some (.row 4 [[sl c.nc (c.nodes.map Nd.enc),sl c.mc (c.names.map a44),.nilslice,sl c.oc (c.outs.map a0n)]]),some (.row 1 [[.int .i64 most]]),some (.row 3 [[.nilslice,.nilslice,.int .i64 0]]),some (.row 3 [[.slice 4 0 0 (some 0),.slice 5 0 0 (some 0),.int .i64 ts.length]]),some (.row 1 []),some (.row 1 [])]) (fun b=>w - b) (fun b=>b ≤ w) 0 ?_ (Nat.zero_le _) ?_
  ·(simp +decide only [go_sem,a02,a00]<;>rfl)<;>rfl
  ·intro b hb
   by_cases hbw:b < w
   ·have c1:(b:Int) < w:=by omega
    have hbT:64 * b < ts.length:=by omega
    have hwb:=wI1 (n:=b) (by omega)
    have hwm:IntKind.i64.wrap ((b:Int) * 64) = ((64 * b:Nat):Int):=by rw [w64 (by omega) (by omega)];omega
    have hw64:IntKind.i64.wrap (((64 * b:Nat):Int) + 64) = ((64 * (b + 1):Nat):Int):=by rw [w64 (by omega) (by omega)];omega
    have hmn:(if (ts.length:Int) < ((64 * (b + 1):Nat):Int) then (ts.length:Int) else ((64 * (b + 1):Nat):Int)) = ((min (64 * b + 64) ts.length:Nat):Int):=by split<;>omega
    have hi1:inB ((min (64 * b + 64) ts.length:Nat):Int) ts.length = true:=b4y (by omega)
    have hi2:inB ((64 * b:Nat):Int) (min (64 * b + 64) ts.length) = true:=b4y (by omega)
    have hal1:(ts.map Pat.enc).all (fun r=>decide (r.length = 2)) = true:=by simp [Pat.enc]
    obtain ⟨rp,hrp⟩:=c5e rt (ts.map Pat.enc) (64 * b) (min (64 * b + 64) ts.length)
    rw [← List.map_take,← List.map_drop,b6u ts b hbT] at hrp
    have htab:=fun (d:Bool) H=>a8d (d:=d) H c h (some (some 0)) rp [] (a3k ts b) (by simp) (Nat.le_trans (a6w ts b) (by omega)) (fun f hf'=>by simp at hf') (fun p hp'=>hp p (a88 hp')) ord hop hst
    rw [a2v,hce] at htab
    have ht0:(a5g c ord [] (a3k ts b)).map c5m = []:=rfl
    simp only [ht0,List.map_nil,List.length_nil] at htab
    have hdel:=fun Y=>b8i (.row 4 [[sl c.nc (c.nodes.map Nd.enc),sl c.mc (c.names.map a44),.nilslice,sl c.oc (c.outs.map a0n)]]) (.row 3 [[.nilslice,.nilslice,.int .i64 0]]) Y most ts.length
    (repeat first|simp only [ww]|(apply xa;simp +decide only [go_sem,c1,hwm,hw64,hmn,hi1,hi2,hal1,hrp,d8l,hpk,htab,List.length_map];rfl;kernel_rfl))
    refine a0l (m:=0) (σ:=Nat) kp21_4 (fun k=>[(1,sl rl []),(2,sl rt (ts.map Pat.enc)),(4,.ptr 0 0 0),(7,.ptr 1 0 0),(8,.ptr 2 0 0),(9,.ptr 3 0 0),(10,.nilslice),(13,.int .i64 (64 * b:Nat)),(14,sl rp ((a3k ts b).map Pat.enc)),(15,.ptr 6 0 0),(38,.int .i64 w),(39,.int .i64 b),(61,.nilslice),(62,.int .i64 0),(63,.int .i64 0)])
     (fun k=>[some (.row 4 [[sl c.nc (c.nodes.map Nd.enc),sl c.mc (c.names.map a44),.nilslice,sl c.oc (c.outs.map a0n)]]),some (.row 1 [[.int .i64 most]]),some (.row 3 [[.nilslice,.nilslice,.int .i64 0]]),some (.row 3 [[.slice 4 0 0 (some 0),.slice 5 0 0 (some 0),.int .i64 ts.length]]),some (.row 1 []),some (.row 1 []),some (.row 1 [[.islice [] (some 0)]])]) (fun k=>0) (fun k=>True) 0 ?_ trivial ?_
    ·(simp +decide only [go_sem,a02,a00]<;>rfl)<;>rfl
    ·intro k _
     (repeat first|simp only [ww]|(apply xa;simp +decide only [go_sem,hdel,hwb];rfl;kernel_rfl))
     refine a1m (b + 1) ?_ (by omega) (by omega)
     (simp +decide only [go_sem,a02,a00]<;>rfl)<;>rfl
   ·obtain rfl:w = b:=by omega
    have c1:¬ (w:Int) < w:=by omega
    (repeat first|simp only [ww]|(apply xa;simp +decide only [go_sem,c1];rfl;kernel_rfl))
    (apply fqb;simp +decide only [go_sem]<;>rfl)
theorem b9v (c:Cir) (rl rt:Rep) (A B:List (List AV)) (x:List AV) (hx:a0d x = []):a0d ([.agg c.enc,sl rl A,sl rt B] ++ x) = []:=by
 simp only [List.cons_append,List.nil_append,a0c,a10,Cir.enc,go_sem,hx]
theorem c6p {d:Bool} (H:a06) (most:Int) (hm1:1 ≤ most) (hm2:most < 9223372036854775808) (c:Cir) (h:c.wf) (rl rt:Rep) (l:List Flt) (ts:List Pat) (hll:l.length ≤ 80) (htl:ts.length ≤ 100) (hf:∀ f ∈ l,FltOk c.nodes f) (hp:∀ p ∈ ts,PatOk c.nodes p) (ord:List Nat) (hop:ord.Perm (List.range c.nodes.length)) (hst:∀ (d:Bool) (H:a06),a0e L.env d (sem L.env Mf) (.func (.func 51) [] []) [.agg c.enc] H = some (.agg (a4u c ord net0V pin0V),H,[])) :
 a0e L.env d (sem L.env Mf) (.func (.func 21) [] []) [.agg c.enc,sl rl (l.map Flt.enc),sl rt (ts.map Pat.enc),.int .i64 most] H = some (.agg [.islice (a9i most (c2f c ord l ts) l.length fun _=>ts.length) (some l.length),.islice (a92 most (c2f c ord l ts) l.length fun _=>ts.length) (some l.length),.int .i64 ts.length],H,[]):=by
 have hr:=b9v c rl rt (l.map Flt.enc) (ts.map Pat.enc) [.int .i64 most] rfl
 rcases Nat.eq_zero_or_pos l.length with h0|h0
 ·obtain rfl:=List.length_eq_zero_iff.1 h0
  exact a05 (by kernel_rfl) (by kernel_rfl) rfl hr (d13 c h rl rt ts most htl hp ord hop hst) rfl
 ·exact a05 (by kernel_rfl) (by kernel_rfl) rfl hr (d6n c h rl rt l ts most hm1 hm2 h0 hll htl hf hp ord hop hst) rfl
theorem d15 (c:Cir) (h:c.wf) (rl rt:Rep) (l:List Flt) (ts:List Pat) (hll:l.length ≤ 80) (htl:ts.length ≤ 100) (hf:∀ f ∈ l,FltOk c.nodes f) (hp:∀ p ∈ ts,PatOk c.nodes p) (ord:List Nat) (hop:ord.Perm (List.range c.nodes.length)) (hst:∀ (d:Bool) (H:a06),a0e L.env d (sem L.env Mf) (.func (.func 51) [] []) [.agg c.enc] H = some (.agg (a4u c ord net0V pin0V),H,[])) :
 sem L.env Mf 20 [.agg c.enc,sl rl (l.map Flt.enc),sl rt (ts.map Pat.enc)] [] = some (.int .i64 0,[]):=by
 have hce:c.enc = [sl c.nc (c.nodes.map Nd.enc),sl c.mc (c.names.map a44),.nilslice,sl c.oc (c.outs.map a0n)]:=rfl
 have h1:=fun (d:Bool) H=>a8d (d:=d) H c h rl none l [] (by omega) (by simp) hf (fun p hp'=>by simp at hp') ord hop hst
 have h2:=fun (d:Bool) H=>a8d (d:=d) H c h none rt [] ts (by simp) (by omega) (fun f hf'=>by simp at hf') hp ord hop hst
 have e0:sl none (List.map Pat.enc []) = .nilslice:=rfl
 have e1:sl none (List.map Flt.enc []) = .nilslice:=rfl
 rw [e0,hce] at h1
 rw [e1,hce] at h2
 have c1:¬ (4096:Int) < ts.length:=by omega
 rw [hce]
 by_cases ht:ts = []
 ·subst ht
  (refine sv Tryz.f20 ?_;simp only [Tryz.f20,gS])
  (repeat first|simp only [ww]|(apply xa;simp +decide only [go_sem,h1,h2,List.length_map,List.map_nil];rfl;kernel_rfl))
  (apply fqb;simp +decide only [go_sem]<;>rfl)
 ·have c2:¬ (ts.length:Int) = 0:=fun e=>ht (List.length_eq_zero_iff.1 (by omega))
  (refine sv Tryz.f20 ?_;simp only [Tryz.f20,gS])
  (repeat first|simp only [ww]|(apply xa;simp +decide only [go_sem,c1,c2,h1,h2,List.length_map];rfl;kernel_rfl))
  (apply fqb;simp +decide only [go_sem]<;>rfl)
theorem e1j (c:Cir) (h:c.wf) (rl rt:Rep) (l:List Flt) (ts:List Pat) (hll:l.length ≤ 80) (htl:ts.length ≤ 100) (hf:∀ f ∈ l,FltOk c.nodes f) (hp:∀ p ∈ ts,PatOk c.nodes p) (ord:List Nat) (hop:ord.Perm (List.range c.nodes.length)) (hst:∀ (d:Bool) (H:a06),a0e L.env d (sem L.env Mf) (.func (.func 51) [] []) [.agg c.enc] H = some (.agg (a4u c ord net0V pin0V),H,[])) (most:Int) (hmo:most = ts.length + 1) :
 sem L.env Mf 9 [.agg c.enc,sl rl (l.map Flt.enc),sl rt (ts.map Pat.enc)] [] = some (.tuple [.agg [.islice (a9i most (c2f c ord l ts) l.length fun _=>ts.length) (some l.length),.islice (a92 most (c2f c ord l ts) l.length fun _=>ts.length) (some l.length),.int .i64 ts.length],.int .i64 0],[]):=by
 have hce:c.enc = [sl c.nc (c.nodes.map Nd.enc),sl c.mc (c.names.map a44),.nilslice,sl c.oc (c.outs.map a0n)]:=rfl
 have hck:=fun H=>a05 (E:=L.env) (draw:=false) (call:=sem L.env Mf) (g:=20) (fs:=[]) (cs:=[]) (ar:=[.agg c.enc,sl rl (l.map Flt.enc),sl rt (ts.map Pat.enc)]) (H:=H) (by kernel_rfl) (by kernel_rfl) rfl (b9v c rl rt _ _ [] rfl) (d15 c h rl rt l ts hll htl hf hp ord hop hst) rfl
 have hmd:=fun H=>c6p (d:=false) H most (by omega) (by omega) c h rl rt l ts hll htl hf hp ord hop hst
 rw [hce] at hck hmd ⊢
 have hw:IntKind.i64.wrap ((ts.length:Int) + 1) = most:=by rw [hmo];exact w64 (by omega) (by omega)
 (refine sv Tryz.f9 ?_;simp only [Tryz.f9,gS])
 (repeat first|simp only [ww]|(apply xa;simp +decide only [go_sem,hck,hmd,hw,List.length_map];rfl;kernel_rfl))
 (apply fqb;simp +decide only [go_sem]<;>rfl)
theorem c1s {d:Bool} (H:a06) (c:Cir) (h:c.wf) (rl rt:Rep) (l:List Flt) (ts:List Pat) (hll:l.length ≤ 80) (htl:ts.length ≤ 100) (hf:∀ f ∈ l,FltOk c.nodes f) (hp:∀ p ∈ ts,PatOk c.nodes p) (ord:List Nat) (hop:ord.Perm (List.range c.nodes.length)) (hst:∀ (d:Bool) (H:a06),a0e L.env d (sem L.env Mf) (.func (.func 51) [] []) [.agg c.enc] H = some (.agg (a4u c ord net0V pin0V),H,[])) (most:Int) (hmo:most = ts.length + 1) :
 a0e L.env d (sem L.env Mf) (.func (.func 9) [] []) [.agg c.enc,sl rl (l.map Flt.enc),sl rt (ts.map Pat.enc)] H = some (.tuple [.agg [.islice (a9i most (c2f c ord l ts) l.length fun _=>ts.length) (some l.length),.islice (a92 most (c2f c ord l ts) l.length fun _=>ts.length) (some l.length),.int .i64 ts.length],.int .i64 0],H,[]):=
 a05 (by kernel_rfl) (by kernel_rfl) rfl (b9v c rl rt _ _ [] rfl) (e1j c h rl rt l ts hll htl hf hp ord hop hst most hmo) rfl
end Go.MInst
