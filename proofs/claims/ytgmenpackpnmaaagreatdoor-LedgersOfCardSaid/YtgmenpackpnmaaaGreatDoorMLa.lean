/- Part of a proof. No condition. -/
import Derived.Test.YtgmenpackpnmaaaGreatDoorMBase
import Derived.Test.YtgmenpackpnmaaaGreatDoorAxF
import Derived.Test.YtgmenpackpnmaaaGreatDoorMPa
import Derived.Test.YtgmenpackpnmaaaGreatDoorPcLed
import Derived.Test.YtgmenpackpnmaaaGreatDoorMPe
set_option linter.unusedSimpArgs false
set_option linter.unusedVariables false
namespace Go.MInst
open Go.Proofs Go.Ax
set_option maxRecDepth 100000
theorem b8u:∀ n:Fin 81,(1#64 >>> (BitVec.ofInt 64 32).toNat * BitVec.ofNat 64 n >>> (BitVec.ofInt 64 32).toNat + (1#64 >>> (BitVec.ofInt 64 32).toNat * (BitVec.ofNat 64 n &&& BitVec.ofInt 64 4294967295) + ((1#64 &&& BitVec.ofInt 64 4294967295) * (BitVec.ofNat 64 n &&& BitVec.ofInt 64 4294967295)) >>> (BitVec.ofInt 64 32).toNat) >>> (BitVec.ofInt 64 32).toNat + ((1#64 >>> (BitVec.ofInt 64 32).toNat * (BitVec.ofNat 64 n &&& BitVec.ofInt 64 4294967295) + ((1#64 &&& BitVec.ofInt 64 4294967295) * (BitVec.ofNat 64 n &&& BitVec.ofInt 64 4294967295)) >>> (BitVec.ofInt 64 32).toNat &&& BitVec.ofInt 64 4294967295) + (1#64 &&& BitVec.ofInt 64 4294967295) * BitVec.ofNat 64 n >>> (BitVec.ofInt 64 32).toNat) >>> (BitVec.ofInt 64 32).toNat) = 0#64 ∧ 1#64 * BitVec.ofNat 64 n = BitVec.ofNat 64 n ∧ (BitVec.ofNat 64 n).toNat = n ∧ BitVec.ofInt 64 ((n:Nat):Int) = BitVec.ofNat 64 n:=by decide +kernel
theorem d2i (n:Nat) (hn:n ≤ 80):sem L.env Mf 133 [u64 1#64,u64 (BitVec.ofNat 64 n)] [] = some (.tuple [u64 0#64,u64 (BitVec.ofNat 64 n)],[]):=by
 obtain ⟨h1,h2,_⟩:=b8u ⟨n,by omega⟩
 simp only at h1 h2
 (refine sv Tryz.f133 ?_;simp only [Tryz.f133,gS])
 (repeat first|simp only [ww]|(apply xa;simp +decide only [go_sem];rfl;kernel_rfl))
 (apply fqb;simp +decide only [go_sem,h1,h2]<;>rfl)
theorem e37 (n:Nat) (hn:n ≤ 80):sem L.env Mf 89 [u64 1#64,u64 (BitVec.ofNat 64 n)] [] = some (.tuple [u64 0#64,u64 (BitVec.ofNat 64 n)],[]):=by
 have hm:=fun H=>a03 (E:=L.env) (draw:=false) (call:=sem L.env Mf) (g:=133) (fs:=[]) (cs:=[]) (ar:=[u64 1#64,u64 (BitVec.ofNat 64 n)]) (H:=H) (by kernel_rfl) (by kernel_rfl) rfl rfl (d2i n hn) rfl
 (refine sv Tryz.f89 ?_;simp only [Tryz.f89,gS])
 (repeat first|simp only [ww]|(apply xa;simp +decide only [go_sem,hm];rfl;kernel_rfl))
 (apply fqb;simp +decide only [go_sem]<;>rfl)
def c0b (n k:Nat):List (List AV):=List.replicate k [.int .i64 (-1)] ++ List.replicate (n - k) [.int .i64 0]
theorem d22 {n k:Nat} (h:k ≤ n):(c0b n k).length = n:=by simp [c0b];omega
theorem b8g {n k:Nat}:(c0b n k).take k = List.replicate k [.int .i64 (-1)]:=by
 unfold c0b
 rw [List.take_append_of_le_length (by simp),List.take_of_length_le (by simp)]
theorem c71 {n k j:Nat} (h:k + j ≤ n):(c0b n k).take k ++ (List.replicate j [.int .i64 (-1)] ++ (c0b n k).drop (k + j)) = c0b n (k + j):=by
 rw [b8g]
 unfold c0b
 rw [List.drop_append,List.drop_of_length_le (by simp),List.length_replicate,List.drop_replicate,← List.append_assoc,List.replicate_append_replicate,List.nil_append]
 congr 2;omega
theorem c2e (n:Nat):c0b n n = List.replicate n [.int .i64 (-1)]:=by simp [c0b]
theorem c73 (n k:Nat):FlatR (c0b n k):=by
 intro r hr
 rcases List.mem_append.1 hr with h|h<;>(rw [List.eq_of_mem_replicate h];rfl)
theorem c72 (n k:Nat):(c0b n k).flatMap a0e = []:=a06 (c73 n k)
theorem d21 (π:Nat → Option Nat) (n k:Nat):(c0b n k).map (fun r=>r.map (ren π)) = c0b n k:=a04 π (c73 n k)
theorem d6x (k:Nat):(List.replicate k [AV.int .i64 (-1)]).all (fun r=>r.all AV.storable) = true:=by
 rw [List.all_eq_true];intro r hr;rw [List.eq_of_mem_replicate hr];rfl
theorem c70 (n:Nat) (hn:n ≤ 80):sem L.env Mf 54 [.slice 0 0 1 (some 1),.int .i64 n] [some (.row 1 [[.int .i64 (-1)]])] = some (.slice 1 0 n (some n),[some (.row 1 [[.int .i64 (-1)]]),some (.row 1 (List.replicate n [.int .i64 (-1)]))]):=by
 have hw:IntKind.i64.wrap (n:Int) = n:=w64 (by omega) (by omega)
 have c0:¬ (n:Int) < 0:=by omega
 have hm:=fun H=>a03 (E:=L.env) (draw:=false) (call:=sem L.env Mf) (g:=89) (fs:=[]) (cs:=[]) (ar:=[u64 1#64,u64 (BitVec.ofNat 64 n)]) (H:=H) (by kernel_rfl) (by kernel_rfl) rfl rfl (e37 n hn) rfl
 obtain ⟨_,_,h3,h4⟩:=b8u ⟨n,by omega⟩
 simp only at h3 h4
 have c1:¬ (BitVec.ofInt 64 9223372036854775807).toNat < n:=by
  have:(BitVec.ofInt 64 9223372036854775807).toNat = 9223372036854775807:=by decide +kernel
  omega
 have e1:BitVec.ofInt 64 ((1:Nat):Int) = 1#64:=by decide
 have e0:¬ (BitVec.ofInt 64 0).toNat < (0#64).toNat:=by decide
 have hmk:c1b L.env 3 (n:Int) (n:Int) = true:=a48 (by omega) (by decide +kernel)
 have hcp:e3x L.env 35 = some 1:=by kernel_rfl
 rcases Nat.eq_zero_or_pos n with rfl|hp
 ·(refine sv Tryz.f54 ?_;simp only [Tryz.f54,gS])
  (repeat first|simp only [ww]|(apply xa;simp +decide only [go_sem,hw,c0,hm,h3,h4,c1,e1,e0,hmk,hcp];rfl;kernel_rfl))
  refine a0s (σ:=Nat) kp54_0 (fun k=>[(7,.slice 1 0 0 (some 0)),(8,.int .i64 0)]) (fun k=>[some (.row 1 [[.int .i64 (-1)]]),some (.row 1 [])]) (fun k=>0) (fun k=>True) 0 ?_ trivial ?_
  ·(simp +decide only [go_sem,a01,a00]<;>rfl)<;>rfl
  ·intro k _
   (repeat first|simp only [ww]|(apply xa;simp +decide only [go_sem];rfl;kernel_rfl))
   (apply fqb;simp +decide only [go_sem]<;>rfl)
 ·have hnz:¬ n = 0:=by omega
  have ht:List.take n [[AV.int .i64 (-1)]] = [[AV.int .i64 (-1)]]:=List.take_of_length_le (by simp only [List.length_cons,List.length_nil];omega)
  (refine sv Tryz.f54 ?_;simp only [Tryz.f54,gS])
  (repeat first|simp only [ww]|(apply xa;simp +decide only [go_sem,hw,c0,hm,h3,h4,c1,e1,e0,hmk,hcp,hnz,hp,ht,List.drop_replicate];rfl;kernel_rfl))
  refine a0s (σ:=Nat) kp54_0 (fun k=>[(7,.slice 1 0 n (some n)),(8,.int .i64 k)]) (fun k=>[some (.row 1 [[.int .i64 (-1)]]),some (.row 1 (c0b n k))]) (fun k=>n - k) (fun k=>1 ≤ k ∧ k ≤ n) 1 ?_ ⟨Nat.le_refl _,hp⟩ ?_
  ·(simp +decide only [go_sem,a01,a00]<;>rfl)<;>rfl
  ·rintro k ⟨hk1,hkn⟩
   have hRl:=d22 hkn
   have hRt:=b8g (n:=n) (k:=k)
   by_cases hlt:k < n
   ·have d1:(k:Int) < n:=by omega
    have d2:¬ n - k = 0:=by omega
    have d3:0 < n - k:=by omega
    have d4:k + (n - k) ≤ n:=by omega
    have hs:=c71 (n:=n) (k:=k) (j:=min (n - k) k) (by omega)
    rw [← List.append_assoc,hRt] at hs
    have hsto:=d6x
    have hmin:1 ≤ min (n - k) k ∧ k + min (n - k) k ≤ n:=by omega
    have hwj:IntKind.i64.wrap ((k:Int) + (min (n - k) k:Nat)) = ((k + min (n - k) k:Nat):Int):=by rw [w64 (by omega) (by omega)];omega
    generalize c0b n k = R at hRl hRt hs ⊢
    (repeat first|simp only [ww]|(apply xa;simp +decide only [go_sem,d1,d2,d3,d4,hcp,hRl,hRt,hsto,List.take_replicate,List.length_replicate,hkn,hs,hwj];rfl;kernel_rfl))
    generalize min (n - k) k = j at hmin ⊢
    refine a1w (k + j) ?_ (by omega) (by omega)
    (simp +decide only [go_sem,a01,a00,c72,d21]<;>rfl)<;>rfl
   ·obtain rfl:k = n:=by omega
    have d1:¬ (k:Int) < k:=by omega
    (repeat first|simp only [ww]|(apply xa;simp +decide only [go_sem,d1];rfl;kernel_rfl))
    (apply fqb;simp +decide only [go_sem,c2e]<;>rfl)
theorem c0v {d:Bool} (X:Option AObj) (n:Nat) (hn:n ≤ 80):a0c L.env d (sem L.env Mf) (.func (.func 54) [] []) [.slice 1 0 1 (some 1),.int .i64 n] [X,some (.row 1 [[.int .i64 (-1)]])] = some (.slice 2 0 n (some n),[X,some (.row 1 [[.int .i64 (-1)]]),some (.row 1 (List.replicate n [.int .i64 (-1)]))],[1]):=
 d04 (E:=L.env) (draw:=d) (call:=sem L.env Mf) (g:=54) (fs:=[]) (cs:=[]) (ar:=[.slice 1 0 1 (some 1),.int .i64 n]) (H:=[X,some (.row 1 [[.int .i64 (-1)]])]) (b:=1) (o:=.row 1 [[.int .i64 (-1)]]) (o':=.row 1 [[.int .i64 (-1)]]) (o2:=.row 1 (List.replicate n [.int .i64 (-1)])) (by kernel_rfl) (by kernel_rfl) rfl rfl rfl (fun _=>rfl) rfl rfl (c70 n hn) (fun _=>rfl) (by have h:=c73 n n;rw [c2e] at h;exact FlatO.row (k:=1) h) rfl
theorem d4j (n t:Nat) (hn:n ≤ 80):sem L.env Mf 32 [.int .i64 n,.int .i64 t] [] = some (.agg [.slice 2 0 n (some n),.slice 3 0 n (some n),.int .i64 t],
 [some (.row 3 [[.slice 2 0 n (some n),.slice 3 0 n (some n),.int .i64 t]]),some (.row 1 [[.int .i64 (-1)]]),some (.row 1 (List.replicate n [.int .i64 (-1)])),some (.row 1 (List.replicate n [.int .i64 0]))]):=by
 have hr:=fun d X=>c0v (d:=d) X n hn
 have hmk:c1b L.env 3 (n:Int) (n:Int) = true:=a48 (by omega) (by decide +kernel)
 (refine sv Tryz.f32 ?_;simp only [Tryz.f32,gS])
 (repeat first|simp only [ww]|(apply xa;simp +decide only [go_sem,hr,hmk];rfl;kernel_rfl))
 (apply fqb;simp +decide only [go_sem]<;>rfl)
open Go.Proofs Go.Ax Go.Pc
set_option maxRecDepth 100000
def zF:List AV:=[.int .u8 0,.int .i64 0,.int .i64 0,.int .u8 0,.int .i64 0]
def pkF (l:List Flt) (is:List Nat):List Flt:=is.map fun i=>l.getD i ⟨0,0,0,0,0⟩
theorem c7k {l:List Flt} {is:List Nat} {j i:Nat} {f:Flt} (hj:is[j]? = some i) (hf:l[i]? = some f):(pkF l is)[j]? = some f:=by
 unfold pkF
 rw [List.getElem?_map,hj,Option.map_some,List.getD_eq_getElem?_getD,hf];rfl
theorem b6t (l:List Flt) (is:List Nat):(pkF l is).length = is.length:=by simp [pkF]
def pkR (L:List Flt) (j:Nat):List (List AV):=(L.take j).map Flt.enc ++ List.replicate (L.length - j) zF
theorem d7y (L:List Flt) (j:Nat) (hj:j ≤ L.length):(pkR L j).length = L.length:=by simp [pkR];omega
theorem d7x {L:List Flt} {j:Nat} {f:Flt} (h:L[j]? = some f):(pkR L j).set j (Flt.enc f) = pkR L (j + 1):=by
 have hj:=(List.getElem?_eq_some_iff.1 h).1
 unfold pkR
 have hl:((L.take j).map Flt.enc).length = j:=by simp;omega
 obtain ⟨q,hq⟩:∃ q,L.length - j = q + 1:=⟨L.length - j - 1,by omega⟩
 rw [hq,List.replicate_succ,List.set_append_right _ _ (by omega),hl,Nat.sub_self,List.set_cons_zero,show L.length - (j + 1) = q by omega,List.take_add_one,h]
 simp
theorem d7z {L:List Flt} {j:Nat} (h:j < L.length):(pkR L j)[j]? = some zF:=by
 unfold pkR
 rw [List.getElem?_append_right (by simp;omega)]
 have hl:((L.take j).map Flt.enc).length = j:=by simp;omega
 rw [hl,Nat.sub_self,List.getElem?_replicate,if_pos (by omega)]
theorem b6s (L:List Flt) (j:Nat):FlatR (pkR L j):=by
 intro r hr
 rcases List.mem_append.1 hr with h|h
 ·obtain ⟨f,_,rfl⟩:=List.mem_map.1 h;rfl
 ·rw [List.eq_of_mem_replicate h];rfl
theorem d80 (l:List Flt) (rl:Rep) (is:List Nat) (rest:List (List AV)) (c:Option Nat) (his:∀ i ∈ is,i < l.length) (hrest:FlatR rest) (hil:is.length ≤ 1000) :
 sem L.env Mf 33 [sl rl (l.map Flt.enc),.slice 0 0 is.length c] [some (.row 1 (is.map a0d ++ rest))] = some (.islice ((pkF l is).map Flt.enc) (some is.length),[some (.row 1 (is.map a0d ++ rest))]):=by
 have hL:=b6t l is
 have hz:pkR (pkF l is) 0 = List.replicate is.length zF:=by unfold pkR;rw [hL];rfl
 have hfin:pkR (pkF l is) is.length = (pkF l is).map Flt.enc:=by unfold pkR;rw [← hL,Nat.sub_self,List.take_length,List.replicate_zero,List.append_nil]
 have hw:IntKind.i64.wrap (is.length:Int) = is.length:=w64 (by omega) (by omega)
 have hget:∀ (j i:Nat),is[j]? = some i → (is.map a0d ++ rest)[j]? = some [AV.int .i64 (i:Int)]:=by
  intro j i h
  rw [List.getElem?_append_left (by simpa using (List.getElem?_eq_some_iff.1 h).1),List.getElem?_map,h];rfl
 have hRf:(is.map a0d ++ rest).flatMap a0e = []:=by rw [List.flatMap_append,a06 hrest,a06 (FlatR.map fun _=>rfl)];rfl
 have hRr:∀ π:Nat → Option Nat,(is.map a0d ++ rest).map (fun r=>r.map (ren π)) = is.map a0d ++ rest:=fun π=>a04 π (by
  intro r hr
  rcases List.mem_append.1 hr with h|h
  ·exact (FlatR.map (f:=a0d) (l:=is) fun _=>rfl) r h
  ·exact hrest r h)
 have hRl:is.length ≤ (is.map a0d ++ rest).length:=by simp
 generalize (is.map a0d ++ rest) = R at hget hRf hRr hRl ⊢
 have hmk:c1b L.env 68 (is.length:Int) (is.length:Int) = true:=a48 (by omega) (by decide +kernel)
 have hPf:∀ j,(pkR (pkF l is) j).flatMap a0e = []:=fun j=>a06 (b6s _ j)
 have hPr:∀ (π:Nat → Option Nat) j,(pkR (pkF l is) j).map (fun r=>r.map (ren π)) = pkR (pkF l is) j:=fun π j=>a04 π (b6s _ j)
 generalize hLL:pkF l is = LL at hL hz hfin hPf hPr ⊢
 rw [← hfin]
 (refine sv Tryz.f33 ?_;simp only [Tryz.f33,gS])
 (repeat first|simp only [ww]|(apply xa;simp +decide only [go_sem,hw,hmk];rfl;kernel_rfl))
 refine a0s (σ:=Nat) kp33_0 (fun j=>[(0,sl rl (l.map Flt.enc)),(5,.slice 1 0 is.length (some is.length)),(11,.slice 0 0 is.length c),(12,.int .i64 is.length),(13,.int .i64 j)]) (fun j=>[some (.row 1 R),some (.row 5 (pkR LL j))]) (fun j=>is.length - j) (fun j=>j ≤ is.length) 0 ?_ (Nat.zero_le _) ?_
 ·rw [hz]
  (simp +decide only [go_sem,a01,a00,hRf,hRr]<;>rfl)<;>rfl
 ·intro j hj
  have hPl:(pkR LL j).length = is.length:=by rw [d7y LL j (by omega),hL]
  by_cases hlt:j < is.length
  ·obtain ⟨i,hi⟩:∃ i,is[j]? = some i:=⟨_,List.getElem?_eq_getElem hlt⟩
   have hil2:=his i (List.mem_of_getElem? hi)
   obtain ⟨f,hf⟩:∃ f,l[i]? = some f:=⟨_,List.getElem?_eq_getElem hil2⟩
   have hfe:Flt.enc f = [.int .u8 f.model,.int .i64 f.node,.int .i64 f.pin,.int .u8 f.value,.int .i64 f.other]:=rfl
   have hg:=hget j i hi
   have hp:=d7z (L:=LL) (j:=j) (by omega)
   have hs:=d7x (hLL ▸ c7k hi hf)
   have d1:(j:Int) < is.length:=by omega
   have hwj:=wI1 (n:=j) (by omega)
   rw [hfe] at hs
   unfold zF at hp
   (repeat first|simp only [ww]|(apply xa;simp +decide only [go_sem,d1,hlt,hg,hil2,hf,hfe,hp,hPl,hRl,hwj,hs];rfl;kernel_rfl))
   refine a1w (j + 1) ?_ (by omega) (by omega)
   (simp +decide only [go_sem,a01,a00,hRf,hRr,hPf,hPr]<;>rfl)<;>rfl
  ·obtain rfl:j = is.length:=by omega
   have d1:¬ (is.length:Int) < is.length:=by omega
   (repeat first|simp only [ww]|(apply xa;simp +decide only [go_sem,d1];rfl;kernel_rfl))
   have hT:(pkR LL is.length).take is.length = pkR LL is.length:=List.take_of_length_le (Nat.le_of_eq hPl)
   (apply fqb;simp +decide only [go_sem,hPl,hRr,hT,a0r 1 _ (b6s LL is.length)]<;>rfl)
open Go.Proofs Go.Ax Go.Pc
set_option maxRecDepth 100000
theorem e3g (c:Rep) (rows:List (Rep × List (BitVec 64))) (T:List (List AV)) (n:Nat) (hT:sl c (rows.map c6x) = .islice T (some n)) (k t:Nat) (ht:t < 100000) :
 sem L.env Mf 35 [.int .i64 t,.ptr 0 0 0,.ptr 1 0 0] [some (.row 1 [[.islice T (some n)]]),some (.row 1 [[.int .i64 k]])] = some (.bool (atB rows k t),[some (.row 1 [[.islice T (some n)]]),some (.row 1 [[.int .i64 k]])]):=by
 have ha:=fun (d:Bool) H=>d9w (d:=d) H c rows k t (by omega)
 rw [hT] at ha
 (refine sv Tryz.f35 ?_;simp only [Tryz.f35,gS])
 (repeat first|simp only [ww]|(apply xa;simp +decide only [go_sem,ha];rfl;kernel_rfl))
 (apply fqb;simp +decide only [go_sem]<;>rfl)
theorem c7d (n i f0 m:Nat) (most:Int) (FR CR:List (List AV)) (T:List (List AV)) (w k:Nat) (tests:Int) (D:Nat → Bool) (hi:i < n) (hFl:FR.length = n) (hCl:CR.length = n) (hn:n ≤ 80)
 (hFf:FlatR FR) (hCf:FlatR CR) (hm:m ≤ 64) (hf0:f0 ≤ 4096) (a0 c0:Int) (hF:FR[i]? = some [.int .i64 (a2q most D f0).1]) (hC:CR[i]? = some [.int .i64 (a2q most D f0).2])
 (hH:∀ t,t < m → sem L.env Mf 35 [.int .i64 t,.ptr 0 0 0,.ptr 1 0 0] [some (.row 1 [[.islice T (some w)]]),some (.row 1 [[.int .i64 k]])] = some (.bool (D (f0 + t)),[some (.row 1 [[.islice T (some w)]]),some (.row 1 [[.int .i64 k]])])) :
 sem L.env Mf 34 [.ptr 0 0 0,.int .i64 i,.int .i64 f0,.int .i64 m,.int .i64 most,.func (.func 35) [] [.ptr 3 0 0,.ptr 4 0 0]]
  [some (.row 3 [[.slice 1 0 n (some n),.slice 2 0 n (some n),.int .i64 tests]]),some (.row 1 FR),some (.row 1 CR),some (.row 1 [[.islice T (some w)]]),some (.row 1 [[.int .i64 k]])] =
 some (.tuple [],[some (.row 3 [[.slice 1 0 n (some n),.slice 2 0 n (some n),.int .i64 tests]]),some (.row 1 (FR.set i [.int .i64 (a2q most D (f0 + m)).1])),some (.row 1 (CR.set i [.int .i64 (a2q most D (f0 + m)).2])),some (.row 1 [[.islice T (some w)]]),some (.row 1 [[.int .i64 k]])]):=by
 have hFs:FR.set i [.int .i64 (a2q most D f0).1] = FR:=by
  apply List.ext_getElem? ; intro j
  by_cases h:i = j
  ·subst h;rw [List.getElem?_set_self (by omega),hF]
  ·rw [List.getElem?_set_ne h]
 have hCs:CR.set i [.int .i64 (a2q most D f0).2] = CR:=by
  apply List.ext_getElem? ; intro j
  by_cases h:i = j
  ·subst h;rw [List.getElem?_set_self (by omega),hC]
  ·rw [List.getElem?_set_ne h]
 have hset:∀ (R:List (List AV)) (x:Int),FlatR R → FlatR (R.set i [.int .i64 x]):=by
  intro R x hR r hr
  rcases List.mem_or_eq_of_mem_set hr with h|h
  ·exact hR r h
  ·subst h;rfl
 have hFq:=fun x=>hset FR x hFf
 have hCq:=fun x=>hset CR x hCf
 have hcl:∀ (X F C:Option AObj) (t:Nat),t < m → a0c L.env false (sem L.env Mf) (.func (.func 35) [] [.ptr 3 0 0,.ptr 4 0 0]) [.int .i64 t] [X,F,C,some (.row 1 [[.islice T (some w)]]),some (.row 1 [[.int .i64 k]])] = some (.bool (D (f0 + t)),[X,F,C,some (.row 1 [[.islice T (some w)]]),some (.row 1 [[.int .i64 k]])],[3,4]):=by
  intro X F C t ht
  refine a3j [3,4] (by kernel_rfl) (by kernel_rfl) rfl (by simp +decide only [go_sem]) rfl (by simp +decide only [go_sem]) ?_ rfl rfl (hH t ht) rfl
  intro c hc
  simp only [List.mem_cons,List.not_mem_nil,or_false] at hc
  rcases hc with rfl|rfl<;>exact FlatO.row (fun r hr=>by simp only [List.mem_singleton] at hr;subst hr;rfl)
 (refine sv Tryz.f34 ?_;simp only [Tryz.f34,gS])
 (repeat first|simp only [ww]|(apply xa;simp +decide only [go_sem];rfl;kernel_rfl))
 refine a0s (σ:=Nat) kp34_0 (fun t=>[(0,.ptr 0 0 0),(1,.int .i64 i),(2,.int .i64 f0),(4,.int .i64 most),(5,.func (.func 35) [] [.ptr 3 0 0,.ptr 4 0 0]),(13,.int .i64 m),(14,.int .i64 t)])
  (fun t=>[some (.row 3 [[.slice 1 0 n (some n),.slice 2 0 n (some n),.int .i64 tests]]),some (.row 1 (FR.set i [.int .i64 (a2q most D (f0 + t)).1])),some (.row 1 (CR.set i [.int .i64 (a2q most D (f0 + t)).2])),some (.row 1 [[.islice T (some w)]]),some (.row 1 [[.int .i64 k]])]) (fun t=>m - t) (fun t=>t ≤ m) 0 ?_ (Nat.zero_le _) ?_
 ·rw [Nat.add_zero,hFs,hCs]
  (simp +decide only [go_sem,a01,a00,a06 hFf,a06 hCf,a04 _ hFf,a04 _ hCf]<;>rfl)<;>rfl
 ·intro t ht
  by_cases hlt:t < m
  ·have d1:(t:Int) < m:=by omega
   have hwt:=wI1 (n:=t) (by omega)
   have hw01:IntKind.i64.wrap (0 + 1) = 1:=by decide
   have hst:a2q most D (f0 + (t + 1)) = if (a2q most D (f0 + t)).2 < most ∧ D (f0 + t) = true then (if (a2q most D (f0 + t)).2 = 0 then ((f0 + t:Nat):Int) else (a2q most D (f0 + t)).1,(a2q most D (f0 + t)).2 + 1) else a2q most D (f0 + t):=rfl
   have hcn:=b76 most D (f0 + t)
   have hcl:=fun X F C=>hcl X F C t hlt
   have hFl2:∀ x,(FR.set i x).length = n:=fun x=>by rw [List.length_set,hFl]
   have hCl2:∀ x,(CR.set i x).length = n:=fun x=>by rw [List.length_set,hCl]
   have hFg:∀ x,(FR.set i x)[i]? = some x:=fun x=>List.getElem?_set_self (by omega)
   have hCg:∀ x,(CR.set i x)[i]? = some x:=fun x=>List.getElem?_set_self (by omega)
   by_cases c1:(a2q most D (f0 + t)).2 < most
   ·by_cases hD:D (f0 + t) = true
    ·have hwa:IntKind.i64.wrap ((f0:Int) + t) = ((f0 + t:Nat):Int):=by rw [w64 (by omega) (by omega)];omega
     have hwb:IntKind.i64.wrap ((a2q most D (f0 + t)).2 + 1) = (a2q most D (f0 + t)).2 + 1:=w64 (by omega) (by omega)
     rw [hD] at hcl
     by_cases c2:(a2q most D (f0 + t)).2 = 0
     ·rw [if_pos ⟨c1,hD⟩,if_pos c2] at hst
      have c0:0 < most:=by omega
      (repeat first|simp only [ww]|(apply xa;simp +decide only [go_sem,d1,c0,c1,hcl,c2,hwt,hw01,hi,hFl2,hCl2,hFg,hCg,hwa,hwb,List.set_set];rfl;kernel_rfl))
      refine a1w (t + 1) ?_ (by omega) (by omega)
      rw [hst]
      (simp +decide only [go_sem,a01,a00,a06 (hFq _),a06 (hCq _),a04 _ (hFq _),a04 _ (hCq _),c2]<;>rfl)<;>rfl
     ·rw [if_pos ⟨c1,hD⟩,if_neg c2] at hst
      (repeat first|simp only [ww]|(apply xa;simp +decide only [go_sem,d1,c1,hcl,c2,hwt,hw01,hi,hFl2,hCl2,hFg,hCg,hwa,hwb,List.set_set];rfl;kernel_rfl))
      refine a1w (t + 1) ?_ (by omega) (by omega)
      rw [hst]
      (simp +decide only [go_sem,a01,a00,a06 (hFq _),a06 (hCq _),a04 _ (hFq _),a04 _ (hCq _)]<;>rfl)<;>rfl
    ·rw [if_neg (fun h=>hD h.2)] at hst
     have hD:D (f0 + t) = false:=by simpa using hD
     rw [hD] at hcl
     (repeat first|simp only [ww]|(apply xa;simp +decide only [go_sem,d1,c1,hcl,hwt,hi,hFl2,hCl2,hFg,hCg];rfl;kernel_rfl))
     refine a1w (t + 1) ?_ (by omega) (by omega)
     rw [hst]
     (simp +decide only [go_sem,a01,a00,a06 (hFq _),a06 (hCq _),a04 _ (hFq _),a04 _ (hCq _)]<;>rfl)<;>rfl
   ·rw [if_neg (fun h=>c1 h.1)] at hst
    (repeat first|simp only [ww]|(apply xa;simp +decide only [go_sem,d1,c1,hwt,hi,hFl2,hCl2,hFg,hCg];rfl;kernel_rfl))
    refine a1w (t + 1) ?_ (by omega) (by omega)
    rw [hst]
    (simp +decide only [go_sem,a01,a00,a06 (hFq _),a06 (hCq _),a04 _ (hFq _),a04 _ (hCq _)]<;>rfl)<;>rfl
  ·obtain rfl:t = m:=by omega
   have d1:¬ (t:Int) < t:=by omega
   have h0:a7j [] = .tuple []:=rfl
   (repeat first|simp only [ww]|(apply xa;simp +decide only [go_sem,d1];rfl;kernel_rfl))
   (apply fqb;simp +decide only [go_sem,h0,a04 _ (hFq _),a04 _ (hCq _)]<;>rfl)
open Go.Proofs Go.Ax Go.Pc
set_option maxRecDepth 100000
theorem e3w (n i:Nat) (most tests v:Int) (FR CR:List (List AV)) (hFf:FlatR FR) (hCf:FlatR CR) (hi:i < n) (hCl:CR.length = n) (hC:CR[i]? = some [.int .i64 v]) :
 sem L.env Mf 38 [.int .i64 i,.ptr 0 0 0,.ptr 3 0 0] [some (.row 3 [[.slice 1 0 n (some n),.slice 2 0 n (some n),.int .i64 tests]]),some (.row 1 FR),some (.row 1 CR),some (.row 1 [[.int .i64 most]])] = some (.bool (decide (v = most)),[some (.row 3 [[.slice 1 0 n (some n),.slice 2 0 n (some n),.int .i64 tests]]),some (.row 1 FR),some (.row 1 CR),some (.row 1 [[.int .i64 most]])]):=by
 have hFr:=fun π=>a04 π hFf
 have hCr:=fun π=>a04 π hCf
 (refine sv Tryz.f38 ?_;simp only [Tryz.f38,gS])
 (repeat first|simp only [ww]|(apply xa;simp +decide only [go_sem,hi,hCl,hC];rfl;kernel_rfl))
 (apply fqb;simp +decide only [go_sem,hFr,hCr]<;>rfl)
theorem c3i {d:Bool} (Y:Option AObj) (n i:Nat) (most tests v:Int) (FR CR:List (List AV)) (hFf:FlatR FR) (hCf:FlatR CR) (hi:i < n) (hCl:CR.length = n) (hC:CR[i]? = some [.int .i64 v]) :
 a0c L.env d (sem L.env Mf) (.func (.func 38) [] [.ptr 1 0 0,.ptr 4 0 0]) [.int .i64 i] [Y,some (.row 3 [[.slice 2 0 n (some n),.slice 3 0 n (some n),.int .i64 tests]]),some (.row 1 FR),some (.row 1 CR),some (.row 1 [[.int .i64 most]])] = some (.bool (decide (v = most)),[Y,some (.row 3 [[.slice 2 0 n (some n),.slice 3 0 n (some n),.int .i64 tests]]),some (.row 1 FR),some (.row 1 CR),some (.row 1 [[.int .i64 most]])],[1,2,3,4]):=by
 have hFr:=fun π=>a04 π hFf
 have hCr:=fun π=>a04 π hCf
 have hF0:=a06 hFf
 have hC0:=a06 hCf
 have hc:=a1c (sem L.env Mf 38) [.int .i64 i,.ptr 1 0 0,.ptr 4 0 0] [Y,some (.row 3 [[.slice 2 0 n (some n),.slice 3 0 n (some n),.int .i64 tests]]),some (.row 1 FR),some (.row 1 CR),some (.row 1 [[.int .i64 most]])] (σ:=[1,2,3,4]) (by simp +decide only [go_sem,hF0,hC0]) rfl rfl (args':=[.int .i64 i,.ptr 0 0 0,.ptr 3 0 0]) rfl (H0:=[some (.row 3 [[.slice 1 0 n (some n),.slice 2 0 n (some n),.int .i64 tests]]),some (.row 1 FR),some (.row 1 CR),some (.row 1 [[.int .i64 most]])]) (by simp only [a1y,List.map_cons,List.map_nil,a02,List.getElem?_cons_succ,List.getElem?_cons_zero,Option.join_some,Option.map_some,a0v,hFr,hCr];rfl) (e3w n i most tests v FR CR hFf hCf hi hCl hC)
 refine a2u (by kernel_rfl) (by kernel_rfl) rfl (hc.trans ?_) rfl
 simp +decide only [go_sem,hFr,hCr]<;>rfl
theorem d3h (n:Nat) (most tests:Int) (cv:Nat → Int) (FR CR R:List (List AV)) (is:List Nat) (c:Option Nat) (hFf:FlatR FR) (hCf:FlatR CR) (hRf:FlatR R) (hCl:CR.length = n) (hC:∀ i,i < n → CR[i]? = some [.int .i64 (cv i)])
 (his:∀ i ∈ is,i < n) (hil:is.length ≤ 1000) (hRl:is.length ≤ R.length) (hR:∀ (j i:Nat),is[j]? = some i → R[j]? = some [AV.int .i64 (i:Int)]) :
 ∃ r:AV × a05,((r = (.int .i64 (-1),[some (.row 1 R),some (.row 3 [[.slice 2 0 n (some n),.slice 3 0 n (some n),.int .i64 tests]]),some (.row 1 FR),some (.row 1 CR),some (.row 1 [[.int .i64 most]])]) ∧ ∀ i ∈ is,cv i ≠ most) ∨ ∃ j i,r = (.int .i64 (j:Nat),[some (.row 1 R),some (.row 3 [[.slice 2 0 n (some n),.slice 3 0 n (some n),.int .i64 tests]]),some (.row 1 FR),some (.row 1 CR),some (.row 1 [[.int .i64 most]])]) ∧ is[j]? = some i ∧ cv i = most ∧ ∀ x ∈ is.take j,cv x ≠ most) ∧
  sem L.env Mf 55 [.slice 0 0 is.length c,.func (.func 38) [] [.ptr 1 0 0,.ptr 4 0 0]] [some (.row 1 R),some (.row 3 [[.slice 2 0 n (some n),.slice 3 0 n (some n),.int .i64 tests]]),some (.row 1 FR),some (.row 1 CR),some (.row 1 [[.int .i64 most]])] = some r:=by
 have hFr:=fun π=>a04 π hFf
 have hCr:=fun π=>a04 π hCf
 have hRr:=fun π=>a04 π hRf
 have hF0:=a06 hFf
 have hC0:=a06 hCf
 have hR0:=a06 hRf
 (refine svE Tryz.f55 ?_;simp only [Tryz.f55,gS])
 (repeat first|simp only [ww]|(apply xa;simp +decide only [go_sem];rfl;kernel_rfl))
 refine a0s (σ:=Nat) kp55_0 (fun j=>[(0,.slice 0 0 is.length c),(1,.func (.func 38) [] [.ptr 1 0 0,.ptr 4 0 0]),(7,.int .i64 is.length),(8,.int .i64 j)]) (fun j=>[some (.row 1 R),some (.row 3 [[.slice 2 0 n (some n),.slice 3 0 n (some n),.int .i64 tests]]),some (.row 1 FR),some (.row 1 CR),some (.row 1 [[.int .i64 most]])]) (fun j=>is.length - j) (fun j=>j ≤ is.length ∧ ∀ x ∈ is.take j,cv x ≠ most) 0 ?_ ⟨Nat.zero_le _,fun x h=>by simp at h⟩ ?_
 ·(simp +decide only [go_sem,a01,a00,hF0,hC0,hR0,hFr,hCr,hRr]<;>rfl)<;>rfl
 ·rintro j ⟨hj,hno⟩
  by_cases hlt:j < is.length
  ·obtain ⟨i,hi⟩:∃ i,is[j]? = some i:=⟨_,List.getElem?_eq_getElem hlt⟩
   have hin:=his i (List.mem_of_getElem? hi)
   have hg:=hR j i hi
   have hdel:=fun Y=>c3i (d:=false) Y n i most tests (cv i) FR CR hFf hCf hin hCl (hC i hin)
   have d1:(j:Int) < is.length:=by omega
   have hwj:=wI1 (n:=j) (by omega)
   by_cases hd:cv i = most
   ·(repeat first|simp only [ww]|(apply xa;simp +decide only [go_sem,d1,hlt,hRl,hg,hdel,hd];rfl;kernel_rfl))
    (apply e5n;(·simp +decide only [go_sem,hFr,hCr,hRr]<;>rfl))
    exact .inr ⟨j,i,rfl,hi,hd,hno⟩
   ·(repeat first|simp only [ww]|(apply xa;simp +decide only [go_sem,d1,hlt,hRl,hg,hdel,hd,hwj];rfl;kernel_rfl))
    refine a1w (j + 1) ?_ (by omega) ⟨by omega,?_⟩
    ·(simp +decide only [go_sem,a01,a00,hF0,hC0,hR0,hFr,hCr,hRr]<;>rfl)<;>rfl
    ·intro x hx
     rw [List.take_add_one,hi] at hx
     rcases List.mem_append.1 hx with h|h
     ·exact hno x h
     ·simp only [Option.toList,List.mem_singleton] at h;subst h;exact hd
  ·obtain rfl:j = is.length:=by omega
   have d1:¬ (is.length:Int) < is.length:=by omega
   (repeat first|simp only [ww]|(apply xa;simp +decide only [go_sem,d1];rfl;kernel_rfl))
   (apply e5n;(·simp +decide only [go_sem,hFr,hCr,hRr]<;>rfl))
   exact .inl ⟨rfl,by rw [List.take_length] at hno;exact hno⟩
open Go.Proofs Go.Ax Go.Pc
set_option maxRecDepth 100000
theorem c3q {d:Bool} {g:FuncId} (hx:L.env.ext g = false) (hf:(L.env.fn g).isSome = true) (n k:Nat) (most tests:Int) (FR CR R R':List (List AV)) (c:Option Nat) (v:AV) (hFf:FlatR FR) (hCf:FlatR CR) (hRf:FlatR R) (hRf':FlatR R')
 (hv:∀ m,ren (a1d [0,1,2,3,4] m) v = v) (h:sem L.env Mf g [.slice 0 0 k c,.func (.func 38) [] [.ptr 1 0 0,.ptr 4 0 0]] [some (.row 1 R),some (.row 3 [[.slice 2 0 n (some n),.slice 3 0 n (some n),.int .i64 tests]]),some (.row 1 FR),some (.row 1 CR),some (.row 1 [[.int .i64 most]])] = some (v,[some (.row 1 R'),some (.row 3 [[.slice 2 0 n (some n),.slice 3 0 n (some n),.int .i64 tests]]),some (.row 1 FR),some (.row 1 CR),some (.row 1 [[.int .i64 most]])])) :
 a0c L.env d (sem L.env Mf) (.func (.func g) [] []) [.slice 0 0 k c,.func (.func 38) [] [.ptr 1 0 0,.ptr 4 0 0]] [some (.row 1 R),some (.row 3 [[.slice 2 0 n (some n),.slice 3 0 n (some n),.int .i64 tests]]),some (.row 1 FR),some (.row 1 CR),some (.row 1 [[.int .i64 most]])] = some (v,[some (.row 1 R'),some (.row 3 [[.slice 2 0 n (some n),.slice 3 0 n (some n),.int .i64 tests]]),some (.row 1 FR),some (.row 1 CR),some (.row 1 [[.int .i64 most]])],[0,1,2,3,4]):=by
 have hFr:=fun π=>a04 π hFf
 have hCr:=fun π=>a04 π hCf
 have hRr:=fun π=>a04 π hRf
 have hRr':=fun π=>a04 π hRf'
 have hF0:=a06 hFf
 have hC0:=a06 hCf
 have hR0:=a06 hRf
 have hc:=a1c (sem L.env Mf g) [.slice 0 0 k c,.func (.func 38) [] [.ptr 1 0 0,.ptr 4 0 0]] [some (.row 1 R),some (.row 3 [[.slice 2 0 n (some n),.slice 3 0 n (some n),.int .i64 tests]]),some (.row 1 FR),some (.row 1 CR),some (.row 1 [[.int .i64 most]])] (σ:=[0,1,2,3,4]) (by simp +decide only [go_sem,hF0,hC0,hR0]) rfl rfl (args':=[.slice 0 0 k c,.func (.func 38) [] [.ptr 1 0 0,.ptr 4 0 0]]) rfl (H0:=[some (.row 1 R),some (.row 3 [[.slice 2 0 n (some n),.slice 3 0 n (some n),.int .i64 tests]]),some (.row 1 FR),some (.row 1 CR),some (.row 1 [[.int .i64 most]])]) (by simp only [a1y,List.map_cons,List.map_nil,a02,List.getElem?_cons_succ,List.getElem?_cons_zero,Option.join_some,Option.map_some,a0v,hFr,hCr,hRr];rfl) h
 refine a2u hx hf rfl (hc.trans ?_) rfl
 simp +decide only [go_sem,hFr,hCr,hRr',hv]<;>rfl
def OneR (R:List (List AV)):Prop:=∀ r ∈ R,∃ x:Int,r = [AV.int .i64 x]
theorem OneR.flat {R:List (List AV)} (h:OneR R):FlatR R:=fun r hr=>by obtain ⟨x,rfl⟩:=h r hr;rfl
theorem OneR.app {A B:List (List AV)} (h:OneR A) (k:OneR B):OneR (A ++ B):=fun r hr=>(List.mem_append.1 hr).elim (h r) (k r)
theorem OneR.ints (l:List Nat):OneR (l.map a0d):=fun r hr=>by obtain ⟨x,_,rfl⟩:=List.mem_map.1 hr;exact ⟨x,rfl⟩
theorem OneR.get {R:List (List AV)} (h:OneR R) {i:Nat} (hi:i < R.length):∃ x:Int,R[i]? = some [AV.int .i64 x]:=by
 obtain ⟨x,hx⟩:=h _ (List.getElem_mem hi)
 exact ⟨x,by rw [List.getElem?_eq_getElem hi,hx]⟩
theorem OneR.set {R:List (List AV)} (h:OneR R) (i:Nat) (x:Int):OneR (R.set i [.int .i64 x]):=fun r hr=>by
 rcases List.mem_or_eq_of_mem_set hr with h'|h'
 ·exact h r h'
 ·exact ⟨x,h'⟩
theorem OneR.drop {R:List (List AV)} (h:OneR R) (i:Nat):OneR (R.drop i):=fun r hr=>h r (List.mem_of_mem_drop hr)
theorem OneR.rep (n:Nat) (x:Int):OneR (List.replicate n [.int .i64 x]):=fun r hr=>⟨x,List.eq_of_mem_replicate hr⟩
theorem c9r (n:Nat) (most tests:Int) (cv:Nat → Int) (FR CR rest:List (List AV)) (is:List Nat) (c:Option Nat) (hFf:FlatR FR) (hCf:FlatR CR) (hrest:OneR rest) (hCl:CR.length = n) (hC:∀ i,i < n → CR[i]? = some [.int .i64 (cv i)])
 (his:∀ i ∈ is,i < n) (hil:is.length ≤ 1000) (hcc:∀ m,c = some m → is.length ≤ m) :
 ∃ r:AV × a05,(∃ rest',OneR rest' ∧ r = (.slice 0 0 (is.filter fun i=>decide (cv i ≠ most)).length c,[some (.row 1 ((is.filter fun i=>decide (cv i ≠ most)).map a0d ++ rest')),some (.row 3 [[.slice 2 0 n (some n),.slice 3 0 n (some n),.int .i64 tests]]),some (.row 1 FR),some (.row 1 CR),some (.row 1 [[.int .i64 most]])])) ∧
  sem L.env Mf 37 [.slice 0 0 is.length c,.func (.func 38) [] [.ptr 1 0 0,.ptr 4 0 0]] [some (.row 1 (is.map a0d ++ rest)),some (.row 3 [[.slice 2 0 n (some n),.slice 3 0 n (some n),.int .i64 tests]]),some (.row 1 FR),some (.row 1 CR),some (.row 1 [[.int .i64 most]])] = some r:=by
 have hR1:OneR (is.map a0d ++ rest):=(OneR.ints is).app hrest
 have hRf:=hR1.flat
 have hR:∀ (j i:Nat),is[j]? = some i → (is.map a0d ++ rest)[j]? = some [AV.int .i64 (i:Int)]:=by
  intro j i h
  rw [List.getElem?_append_left (by simpa using (List.getElem?_eq_some_iff.1 h).1),List.getElem?_map,h];rfl
 have hRl:is.length ≤ (is.map a0d ++ rest).length:=by simp
 have hRt:(is.map a0d ++ rest).take is.length = is.map a0d:=by rw [List.take_append_of_le_length (by simp),List.take_of_length_le (by simp)]
 have hnot:(∀ i ∈ is,cv i ≠ most) → is.filter (fun i=>decide (cv i ≠ most)) = is:=fun h=>List.filter_eq_self.2 fun i hi=>by simpa using h i hi
 have hkeep:∃ rest',is.map a0d ++ rest = is.map a0d ++ rest' ∧ OneR rest':=⟨rest,rfl,hrest⟩
 generalize hRR:is.map a0d ++ rest = R at hR1 hRf hR hRl hRt hkeep ⊢
 have hFr:=fun π=>a04 π hFf
 have hCr:=fun π=>a04 π hCf
 have hRr:=fun π=>a04 π hRf
 have hF0:=a06 hFf
 have hC0:=a06 hCf
 have hR0:=a06 hRf
 obtain ⟨r,hr,hidx⟩:=d3h n most tests cv FR CR R is c hFf hCf hRf hCl hC his hil hRl hR
 rcases hr with ⟨rfl,hno⟩|⟨j0,i0,rfl,hj0,hi0,hno⟩
 ·have hcall:=c3q (d:=false) (g:=55) (by kernel_rfl) (by kernel_rfl) n is.length most tests FR CR R R c _ hFf hCf hRf hRf (fun _=>rfl) hidx
  rw [hnot hno]
  (refine svE Tryz.f37 ?_;simp only [Tryz.f37,gS])
  (repeat first|simp only [ww]|(apply xa;simp +decide only [go_sem,hcall];rfl;kernel_rfl))
  (apply e5n;(·simp +decide only [go_sem,hFr,hCr,hRr]<;>rfl))
  obtain ⟨rest',h1,h2⟩:=hkeep
  exact ⟨rest',h2,by rw [← h1]⟩
 ·have hcall:=c3q (d:=false) (g:=55) (by kernel_rfl) (by kernel_rfl) n is.length most tests FR CR R R c _ hFf hCf hRf hRf (fun _=>rfl) hidx
  have hj0l:=(List.getElem?_eq_some_iff.1 hj0).1
  have hj1:¬ (j0:Int) = -1:=by omega
  have hw1:=wI1 (n:=j0) (by omega)
  (refine svE Tryz.f37 ?_;simp only [Tryz.f37,gS])
  (repeat first|simp only [ww]|(apply xa;simp +decide only [go_sem,hcall,hj1,hw1];rfl;kernel_rfl))
  have hcl:e8v L.env 35 = some (1,[.int .i64 0]):=by kernel_rfl
  have hfull:∀ (Q:Nat → Bool) (l:List Nat),(∀ x ∈ l,Q x = true) → l.filter Q = l:=fun Q l h=>List.filter_eq_self.2 h
  obtain ⟨P,hP⟩:∃ P:Nat → Bool,P = fun i=>decide (cv i ≠ most):=⟨_,rfl⟩
  rw [← hP]
  have hPt:∀ x,cv x ≠ most → P x = true:=fun x h=>by rw [hP];simpa using h
  have hPf:∀ x,cv x = most → P x = false:=fun x h=>by rw [hP];simpa using h
  have hsn:∀ (j v:Nat),is[j]? = some v → (is.take (j + 1)).filter P = (is.take j).filter P ++ (if P v then [v] else []):=by
   intro j v h
   rw [List.take_add_one,h,List.filter_append]
   cases hv:P v<;>simp [hv]
  refine a30 kp37_0 (fun N F H=>∃ (i j:Nat) (R':List (List AV)),N = is.length - j ∧ F = [(0,.slice 0 0 is.length c),(1,.func (.func 38) [] [.ptr 1 0 0,.ptr 4 0 0]),(5,.int .i64 i),(6,.int .i64 j)] ∧ H = [some (.row 1 R'),some (.row 3 [[.slice 2 0 n (some n),.slice 3 0 n (some n),.int .i64 tests]]),some (.row 1 FR),some (.row 1 CR),some (.row 1 [[.int .i64 most]])] ∧ i < j ∧ j ≤ is.length ∧ R'.length = R.length ∧ OneR R' ∧
   R'.take i = ((is.take j).filter P).map a0d ∧ ((is.take j).filter P).length = i ∧ ∀ x,j ≤ x → R'[x]? = R[x]?) (is.length - (j0 + 1)) ?_ ?_
  ·have hf0:(is.take (j0 + 1)).filter P = is.take j0:=by
    rw [hsn j0 i0 hj0,hfull P _ (fun x hx=>hPt x (hno x hx)),hPf i0 hi0];simp
   refine ⟨[(0,.slice 0 0 is.length c),(1,.func (.func 38) [] [.ptr 1 0 0,.ptr 4 0 0]),(5,.int .i64 j0),(6,.int .i64 (j0 + 1:Nat))],[some (.row 1 R),some (.row 3 [[.slice 2 0 n (some n),.slice 3 0 n (some n),.int .i64 tests]]),some (.row 1 FR),some (.row 1 CR),some (.row 1 [[.int .i64 most]])],by (simp +decide only [go_sem,a01,a00,hF0,hC0,hR0,hFr,hCr,hRr]<;>rfl)<;>rfl,j0,j0 + 1,R,rfl,rfl,rfl,by omega,by omega,rfl,hR1,?_,?_,fun _ _=>rfl⟩
   ·rw [hf0,List.map_take,← hRt,List.take_take,Nat.min_eq_left (by omega)]
   ·rw [hf0,List.length_take];omega
  ·rintro N F1 H1 ⟨i,j,R',rfl,rfl,rfl,hij,hj,hRl',hR1',hRt',hil',hRx⟩
   have hRf':=hR1'.flat
   have hRr':=fun π=>a04 π hRf'
   have hR0':=a06 hRf'
   by_cases hlt:j < is.length
   ·obtain ⟨v,hv⟩:∃ v,is[j]? = some v:=⟨_,List.getElem?_eq_getElem hlt⟩
    have hvn:=his v (List.mem_of_getElem? hv)
    have hg:R'[j]? = some [AV.int .i64 (v:Int)]:=by rw [hRx j (Nat.le_refl _)];exact hR j v hv
    have hdel:=fun Y=>c3i (d:=false) Y n v most tests (cv v) FR CR hFf hCf hvn hCl (hC v hvn)
    have d1:(j:Int) < is.length:=by omega
    have hwj:=wI1 (n:=j) (by omega)
    have hlR:is.length ≤ R'.length:=by omega
    by_cases hd:cv v = most
    ·(repeat first|simp only [ww]|(apply xa;simp +decide only [go_sem,d1,hlt,hlR,hg,hdel,hd,hwj];rfl;kernel_rfl))
     refine a17 (is.length - (j + 1)) (by omega) ⟨[(0,.slice 0 0 is.length c),(1,.func (.func 38) [] [.ptr 1 0 0,.ptr 4 0 0]),(5,.int .i64 i),(6,.int .i64 (j + 1:Nat))],[some (.row 1 R'),some (.row 3 [[.slice 2 0 n (some n),.slice 3 0 n (some n),.int .i64 tests]]),some (.row 1 FR),some (.row 1 CR),some (.row 1 [[.int .i64 most]])],by (simp +decide only [go_sem,a01,a00,hF0,hC0,hR0',hFr,hCr,hRr']<;>rfl)<;>rfl,i,j + 1,R',rfl,rfl,rfl,by omega,by omega,hRl',hR1',?_,?_,fun x hx=>hRx x (by omega)⟩
     ·rw [hsn j v hv,hPf v hd,hRt'];simp
     ·rw [hsn j v hv,hPf v hd];simpa using hil'
    ·have hwi:=wI1 (n:=i) (by omega)
     have hit:i < is.length:=by omega
     obtain ⟨y,hgi⟩:=hR1'.get (i:=i) (by omega)
     have hR2:=hR1'.set i v
     have hRr2:=fun π=>a04 π hR2.flat
     have hR02:=a06 hR2.flat
     (repeat first|simp only [ww]|(apply xa;simp +decide only [go_sem,d1,hlt,hlR,hg,hdel,hd,hwj,hwi,hit,hgi];rfl;kernel_rfl))
     refine a17 (is.length - (j + 1)) (by omega) ⟨[(0,.slice 0 0 is.length c),(1,.func (.func 38) [] [.ptr 1 0 0,.ptr 4 0 0]),(5,.int .i64 (i + 1:Nat)),(6,.int .i64 (j + 1:Nat))],[some (.row 1 (R'.set i [.int .i64 v])),some (.row 3 [[.slice 2 0 n (some n),.slice 3 0 n (some n),.int .i64 tests]]),some (.row 1 FR),some (.row 1 CR),some (.row 1 [[.int .i64 most]])],by (simp +decide only [go_sem,a01,a00,hF0,hC0,hR02,hFr,hCr,hRr2]<;>rfl)<;>rfl,i + 1,j + 1,_,rfl,rfl,rfl,by omega,by omega,by rw [List.length_set];exact hRl',hR2,?_,?_,fun x hx=>by rw [List.getElem?_set_ne (by omega)];exact hRx x (by omega)⟩
     ·rw [hsn j v hv,hPt v hd,List.take_add_one,List.getElem?_set_self (by omega),List.take_set_of_le (Nat.le_refl i),hRt'];simp;rfl
     ·rw [hsn j v hv,hPt v hd];simpa using hil'
   ·obtain rfl:j = is.length:=by omega
    have d1:¬ (is.length:Int) < is.length:=by omega
    have d2:¬ is.length - i = 0:=by omega
    have d3:i + (is.length - i) ≤ R'.length:=by omega
    have d4:i ≤ is.length:=by omega
    have hcap:i ≤ a1j is.length c:=by
     cases c with
     | none=>exact d4
     | some m=>have:=hcc m rfl;show i ≤ m;omega
    rw [List.take_length] at hRt' hil'
    have hrest2:OneR (List.replicate (is.length - i) [AV.int .i64 0] ++ R'.drop (i + (is.length - i))):=(OneR.rep _ _).app (hR1'.drop _)
    (repeat first|simp only [ww]|(apply xa;simp +decide only [go_sem,d1,d2,d3,d4,hcl,hcap,hRt',List.append_assoc];rfl;kernel_rfl))
    have hfin:=a04 (a1k 5) ((OneR.ints (is.filter P)).app hrest2).flat
    (apply e5n;(·simp +decide only [go_sem,hFr,hCr,hfin]<;>rfl))
    exact ⟨_,hrest2,by rw [hil']⟩
end Go.MInst
