/- PcDed: deductive fault simulation of a plain circuit, by its nets at the end of the order. Plain. -/
import Derived.Test.YtlldffjabagdbaaGreatDoorPcB
import Derived.Test.YtlldffjabagdbaaGreatDoorPcP
import Derived.Test.YtlldffjabagdbaaGreatDoorAxB
set_option linter.unusedSectionVars false
set_option linter.unusedSimpArgs false
set_option linter.unusedVariables false
namespace Go.Pc
open Go.Ax
theorem b8h {h:Hk Nat} {nodes:List Nd} {m:Nat}:∀ (l N:List Nat),m ∉ l → (l.foldl (stepG nAlg nodes h) N).getD m 0 = N.getD m 0
 | [],N,_=>rfl
 | n :: l,N,hm=>by
  simp only [List.mem_cons,not_or] at hm
  rw [List.foldl_cons,b8h l _ hm.2]
  unfold stepG
  simp only [List.getD_eq_getElem?_getD]
  rw [List.getElem?_set_ne (fun e=>hm.1 e.symm)]
section
variable {nodes:List Nd} {ord:List Nat} (hp:ord.Perm (List.range nodes.length)) (ht:d9d nodes ord) (hc:∀ n,n < nodes.length → a0c nodes n ≠ 0 ∧ a0c nodes n ≠ 14 → a1d (a0c nodes n) = true)
 {N0:List Nat} (hN:N0.length = nodes.length)
def c6m (nodes:List Nd) (ord N0:List Nat) (h:Hk Nat):List Nat:=ord.foldl (stepG nAlg nodes h) N0
include hp
theorem b9v:ord.Nodup:=hp.nodup_iff.2 List.nodup_range
theorem b5w {h:Hk Nat} {i m:Nat} (hm:m ∈ ord.take i):((ord.take i).foldl (stepG nAlg nodes h) N0).getD m 0 = (c6m nodes ord N0 h).getD m 0:=by
 have hn:=b9v hp
 have e:c6m nodes ord N0 h = (ord.drop i).foldl (stepG nAlg nodes h) ((ord.take i).foldl (stepG nAlg nodes h) N0):=by
  unfold c6m
  rw [← List.foldl_append,List.take_append_drop]
 rw [e]
 refine (b8h _ _ ?_).symm
 intro hd
 rw [← List.take_append_drop i ord,List.nodup_append] at hn
 exact hn.2.2 m hm m hd rfl
theorem b9o {h:Hk Nat} {n:Nat} {N M:List Nat}:∀ (l:List Nat) (p:Nat),(∀ m ∈ l,N.getD m 0 = M.getD m 0) → a3t nAlg h n N p l = a3t nAlg h n M p l
 | [],_,_=>rfl
 | m :: l,p,hm=>by
  simp only [a3t]
  rw [show N.getD m nAlg.z = M.getD m nAlg.z from hm m (by simp),b9o l (p + 1) fun m' h'=>hm m' (by simp [h'])]
include ht hc hN
theorem c2l (h:Hk Nat) {n:Nat} (hn:n < nodes.length) :
 (c6m nodes ord N0 h).getD n 0 = h.net n (if a0c nodes n ≠ 0 ∧ a0c nodes n ≠ 14 then nAlg.ev (a0c nodes n) (a3i nAlg nodes h (c6m nodes ord N0 h) n) else N0.getD n 0):=by
 obtain ⟨i,hi⟩:=List.mem_iff_getElem?.1 (hp.mem_iff.2 (List.mem_range.2 hn))
 have hil:=(List.getElem?_eq_some_iff.1 hi).1
 have htk:ord.take (i + 1) = ord.take i ++ [n]:=a14 hi
 have hnn:n ∉ ord.take i:=by
  have h1:=b9v hp
  rw [← List.take_append_drop (i + 1) ord,htk,List.append_assoc,List.nodup_append] at h1
  exact fun hm=>h1.2.2 n hm n (by simp) rfl
 rw [← b5w hp (i:=i + 1) (by rw [htk];simp),htk,List.foldl_append]
 simp only [List.foldl_cons,List.foldl_nil]
 have hlen:((ord.take i).foldl (stepG nAlg nodes h) N0).length = nodes.length:=by rw [b32,hN]
 rw [show ∀ N:List Nat,stepG nAlg nodes h N n = N.set n (h.net n (if a0c nodes n ≠ 0 ∧ a0c nodes n ≠ 14 then nAlg.ev (a0c nodes n) (a3i nAlg nodes h N n) else N.getD n nAlg.z)) from fun _=>rfl]
 rw [List.getD_eq_getElem?_getD,List.getElem?_set_self (by rw [hlen];exact hn),Option.getD_some]
 congr 1
 split
 ·rename_i hk
  congr 1
  exact b9o hp _ _ fun m hm=>b5w hp (ht i n hi (hc n hn hk) m hm)
 ·show ((ord.take i).foldl (stepG nAlg nodes h) N0).getD n 0 = _
  exact b8h _ _ hnn
end
/-! ### known values -/
theorem b51 {low high:Nat} (hl:low ≤ 1) (hh:high ≤ 1) (hne:low ≠ high):∀ (l:List Nat) (out:Nat),out ≤ 1 → (∀ v ∈ l,v ≤ 1) → a6j low high out l ≤ 1
 | [],out,h,_=>h
 | v :: l,out,h,hv=>by
  unfold a6j
  split
  ·exact hl
  ·rename_i h1
   have:v = high:=by have:=hv v (by simp);omega
   rw [if_pos this]
   exact b51 hl hh hne l out h fun w hw=>hv w (by simp [hw])
theorem c1j:∀ (l:List Nat) (out:Nat),out ≤ 1 → (∀ v ∈ l,v ≤ 1) → b5j out l ≤ 1
 | [],out,h,_=>h
 | v :: l,out,h,hv=>by
  unfold b5j
  have hv1:=hv v (by simp)
  rw [if_pos hv1]
  refine c1j l _ ?_ fun w hw=>hv w (by simp [hw])
  have:∀ a b:Fin 2,(a:Nat) ^^^ (b:Nat) ≤ 1:=by decide
  exact this ⟨out,by omega⟩ ⟨v,by omega⟩
theorem a5n {l:List Nat} {n d:Nat} (hl:∀ v ∈ l,v ≤ 1) (hn:n < l.length):l.getD n d ≤ 1:=by
 rw [List.getD_eq_getElem?_getD,List.getElem?_eq_getElem hn]
 exact hl _ (List.getElem_mem hn)
theorem b7u {v:Nat} (h:v ≤ 1):a9d v ≤ 1:=by unfold a9d;rw [if_pos h];omega
theorem b7m {v:Nat} (h:v ≤ 1):a58 v ≤ 1:=by unfold a58;omega
theorem d7a {k:Nat} {l:List Nat} (hk:a1d k = true) (h12:k ≠ 12) (h13:k ≠ 13) (hlo:a1m k ≤ l.length) (hhi:l.length ≤ a1s k) (hl:∀ v ∈ l,v ≤ 1):nAlg.ev k l ≤ 1:=by
 show a68 k (l.map a4t) ≤ 1
 rw [b44 fun v hv=>by have:=hl v hv;omega]
 unfold a68
 rw [if_neg (by omega)]
 have hk14:1 ≤ k ∧ k ≤ 13:=by simp [a1d] at hk;omega
 have:k = 1 ∨ k = 2 ∨ k = 3 ∨ k = 4 ∨ k = 5 ∨ k = 6 ∨ k = 7 ∨ k = 8 ∨ k = 9 ∨ k = 10 ∨ k = 11:=by omega
 rcases this with rfl|rfl|rfl|rfl|rfl|rfl|rfl|rfl|rfl|rfl|rfl
 ·exact Nat.zero_le _
 ·exact Nat.le_refl _
 ·exact b7m (a5n hl hlo)
 ·exact b7u (a5n hl hlo)
 ·exact b51 (by omega) (by omega) (by omega) l 1 (by omega) hl
 ·exact b7u (b51 (by omega) (by omega) (by omega) l 1 (by omega) hl)
 ·exact b51 (by omega) (by omega) (by omega) l 0 (by omega) hl
 ·exact b7u (b51 (by omega) (by omega) (by omega) l 0 (by omega) hl)
 ·exact c1j l 0 (by omega) hl
 ·exact b7u (c1j l 0 (by omega) hl)
 ·have h3:3 ≤ l.length:=by simpa [a1m] using hlo
  have a:=a5n (n:=0) (d:=2) hl (by omega)
  have b:=a5n (n:=1) (d:=2) hl (by omega)
  have c:=a5n (n:=2) (d:=2) hl (by omega)
  show b7y (l.getD 0 2) (l.getD 1 2) (l.getD 2 2) ≤ 1
  unfold b7y
  split
  ·exact b7m b
  split
  ·exact b7m c
  ·omega
/-! ### the lists -/
structure Ded where
 nodes:List Nd
 ord:List Nat
 N0:List Nat
 fs:List Flt
namespace Ded
variable (D:Ded)
def G:List Nat:=c6m D.nodes D.ord D.N0 hk0
def B (f:Flt):List Nat:=c6m D.nodes D.ord D.N0 (hkF f f.value)
def ft (i:Nat):Flt:=D.fs.getD i ⟨0,0,0,0,0⟩
def dif (n i:Nat):Bool:=decide ((D.B (D.ft i)).getD n 0 ≠ D.G.getD n 0)
def dset (n:Nat):List Int:=a1a D.fs.length (D.dif n)
def at' (n:Nat) (pin:Int) (i:Nat):Bool:=decide ((D.ft i).node = n) && decide ((D.ft i).pin = pin)
def inG (n pin:Nat):Nat:=D.G.getD ((a17 D.nodes n).getD pin 0) 0
def chg (n pin i:Nat):Bool:=bif D.at' n pin i then decide ((D.ft i).value ≠ D.inG n pin) else D.dif ((a17 D.nodes n).getD pin 0) i
def smT (n t i:Nat):Bool:=(List.range t).any fun pin=>D.dif ((a17 D.nodes n).getD pin 0) i || D.at' n pin i
def sm (n i:Nat):Bool:=D.smT n (a17 D.nodes n).length i
def comb (n:Nat):Bool:=decide (a0c D.nodes n ≠ 0) && decide (a0c D.nodes n ≠ 14)
def evB (n i:Nat):Nat:=nAlg.ev (a0c D.nodes n) (a3i nAlg D.nodes (hkF (D.ft i) (D.ft i).value) (D.B (D.ft i)) n)
def out1 (n i:Nat):Bool:=D.comb n && (D.sm n i && decide (D.evB n i ≠ D.G.getD n 0))
structure ok:Prop where
 perm:D.ord.Perm (List.range D.nodes.length)
 topo:d9d D.nodes D.ord
 comb:∀ n,n < D.nodes.length → a0c D.nodes n ≠ 0 ∧ a0c D.nodes n ≠ 14 → a1d (a0c D.nodes n) = true
 inn:∀ n,n < D.nodes.length → ∀ m ∈ a17 D.nodes n,m < D.nodes.length
 lo:∀ n,n < D.nodes.length → a1m (a0c D.nodes n) ≤ (a17 D.nodes n).length
 hi:∀ n,n < D.nodes.length → (a17 D.nodes n).length ≤ a1s (a0c D.nodes n)
 plain:∀ n,n < D.nodes.length → a0c D.nodes n ≠ 12 ∧ a0c D.nodes n ≠ 13
 len:D.N0.length = D.nodes.length
 bit:∀ v ∈ D.N0,v ≤ 1
 flt:∀ f ∈ D.fs,f.model = 0 ∧ f.value ≤ 1 ∧ -1 ≤ f.pin ∧ f.node < D.nodes.length
end Ded
section
variable {D:Ded}
theorem Ded.ft_mem {i:Nat} (hi:i < D.fs.length):D.ft i ∈ D.fs:=by
 unfold Ded.ft
 rw [List.getD_eq_getElem?_getD,List.getElem?_eq_getElem hi]
 exact List.getElem_mem hi
def Hk1 (h:Hk Nat):Prop:=(∀ n v,v ≤ 1 → h.net n v ≤ 1) ∧ ∀ n p v,v ≤ 1 → h.pin n p v ≤ 1
theorem e6a:Hk1 hk0:=⟨fun _ _ h=>h,fun _ _ _ h=>h⟩
theorem e1v {f:Flt} {v:Nat} (h:v ≤ 1):Hk1 (hkF f v):=by
 constructor
 ·intro n w hw;unfold hkF;dsimp only;split
  ·exact h
  ·exact hw
 ·intro n p w hw;unfold hkF;dsimp only;split
  ·exact h
  ·exact hw
variable (hD:D.ok)
include hD
theorem Ded.ok.rds_bit {h:Hk Nat} (hh:Hk1 h) {N:List Nat} (hl:N.length = D.nodes.length) (hN:∀ v ∈ N,v ≤ 1) (n:Nat):∀ (l:List Nat) (p:Nat),(∀ m ∈ l,m < D.nodes.length) → ∀ v ∈ a3t nAlg h n N p l,v ≤ 1
 | [],p,_,v,hv=>by simp [a3t] at hv
 | m :: l,p,hm,v,hv=>by
  simp only [a3t,List.mem_cons] at hv
  rcases hv with rfl|hv
  ·exact hh.2 _ _ _ (a5n hN (by rw [hl];exact hm m (by simp)))
  ·exact Ded.ok.rds_bit hh hl hN n l (p + 1) (fun m' h'=>hm m' (by simp [h'])) v hv
theorem Ded.ok.ev_bit {h:Hk Nat} (hh:Hk1 h) {N:List Nat} (hl:N.length = D.nodes.length) (hN:∀ v ∈ N,v ≤ 1) {n:Nat} (hn:n < D.nodes.length) (hk:a0c D.nodes n ≠ 0 ∧ a0c D.nodes n ≠ 14):nAlg.ev (a0c D.nodes n) (a3i nAlg D.nodes h N n) ≤ 1:=
 d7a (hD.comb n hn hk) (hD.plain n hn).1 (hD.plain n hn).2 (by rw [a70];exact hD.lo n hn) (by rw [a70];exact hD.hi n hn) (hD.rds_bit hh hl hN n _ 0 (hD.inn n hn))
theorem Ded.ok.fold_bit {h:Hk Nat} (hh:Hk1 h):∀ (l N:List Nat),(∀ n ∈ l,n < D.nodes.length) → N.length = D.nodes.length → (∀ v ∈ N,v ≤ 1) → ∀ v ∈ l.foldl (stepG nAlg D.nodes h) N,v ≤ 1
 | [],N,_,_,hN=>hN
 | n :: l,N,hl,hlen,hN=>by
  rw [List.foldl_cons]
  have hn:=hl n (by simp)
  refine Ded.ok.fold_bit hh l _ (fun m hm=>hl m (by simp [hm])) (by rw [b9d,hlen]) ?_
  intro v hv
  unfold stepG at hv
  rcases List.mem_or_eq_of_mem_set hv with h1|h1
  ·exact hN v h1
  ·rw [h1]
   refine hh.1 _ _ ?_
   split
   ·rename_i hk;exact hD.ev_bit hh hlen hN hn hk
   ·exact a5n hN (by rw [hlen];exact hn)
theorem Ded.ok.ordl:∀ n ∈ D.ord,n < D.nodes.length:=fun n hn=>by simpa using hD.perm.mem_iff.1 hn
theorem Ded.ok.G_bit:∀ v ∈ D.G,v ≤ 1:=hD.fold_bit e6a _ _ hD.ordl hD.len hD.bit
theorem Ded.ok.G_len:D.G.length = D.nodes.length:=by unfold Ded.G c6m;rw [b32,hD.len]
theorem Ded.ok.B_len (f:Flt):(D.B f).length = D.nodes.length:=by unfold Ded.B c6m;rw [b32,hD.len]
theorem Ded.ok.B_bit {f:Flt} (hf:f.value ≤ 1):∀ v ∈ D.B f,v ≤ 1:=hD.fold_bit (e1v hf) _ _ hD.ordl hD.len hD.bit
theorem Ded.ok.val {i:Nat} (hi:i < D.fs.length):(D.ft i).value ≤ 1:=(hD.flt _ (Ded.ft_mem hi)).2.1
theorem Ded.ok.G1 {n:Nat} (hn:n < D.nodes.length):D.G.getD n 0 ≤ 1:=a5n hD.G_bit (by rw [hD.G_len];exact hn)
theorem Ded.ok.B1 {n i:Nat} (hi:i < D.fs.length) (hn:n < D.nodes.length):(D.B (D.ft i)).getD n 0 ≤ 1:=a5n (hD.B_bit (hD.val hi)) (by rw [hD.B_len];exact hn)
omit hD in
theorem d6z {i:Nat} {n pin:Nat} (w:Nat):(hkF (D.ft i) (D.ft i).value).pin n pin w = bif D.at' n pin i then (D.ft i).value else w:=by
 unfold hkF Flt.hitsPin Ded.at'
 dsimp only
 by_cases h1:(D.ft i).node = n<;>by_cases h2:(D.ft i).pin = pin
 ·subst h1;simp [h2]
 ·have:¬ ((pin:Int) = (D.ft i).pin):=fun e=>h2 e.symm
  simp [h2,this]
 ·have:¬ (n = (D.ft i).node):=fun e=>h1 e.symm
  simp [h1,this]
 ·have:¬ (n = (D.ft i).node):=fun e=>h1 e.symm
  simp [h1,this]
theorem Ded.ok.chg_eq {n pin i:Nat} (hi:i < D.fs.length) (hn:n < D.nodes.length) (hp:pin < (a17 D.nodes n).length) :
 (hkF (D.ft i) (D.ft i).value).pin n pin ((D.B (D.ft i)).getD ((a17 D.nodes n).getD pin 0) 0) = if D.chg n pin i then a9d (D.inG n pin) else D.inG n pin:=by
 have hm:(a17 D.nodes n).getD pin 0 < D.nodes.length:=by
  rw [List.getD_eq_getElem?_getD,List.getElem?_eq_getElem hp]
  exact hD.inn n hn _ (List.getElem_mem hp)
 have h1:=hD.G1 hm
 have h2:=hD.B1 hi hm
 have h3:=hD.val hi
 rw [d6z]
 unfold Ded.chg Ded.inG
 have flip:∀ x y:Nat,x ≤ 1 → y ≤ 1 → x = if decide (x ≠ y) = true then a9d y else y:=by
  intro x y hx hy
  by_cases e:x = y
  ·simp [e]
  ·simp only [ne_eq,e,not_false_eq_true,decide_true,if_true]
   unfold a9d;rw [if_pos hy];omega
 cases D.at' n pin i with
 | true=>simp only [cond_true];exact flip _ _ h3 h1
 | false=>simp only [cond_false];exact flip _ _ h2 h1
theorem Ded.ok.reads {n i:Nat} (hi:i < D.fs.length) (hn:n < D.nodes.length) :
 a3i nAlg D.nodes (hkF (D.ft i) (D.ft i).value) (D.B (D.ft i)) n = (List.range (a17 D.nodes n).length).map fun pin=>if D.chg n pin i then a9d (D.inG n pin) else D.inG n pin:=by
 apply List.ext_getElem?
 intro p
 by_cases hp:p < (a17 D.nodes n).length
 ·have e:(a17 D.nodes n)[p]? = some ((a17 D.nodes n).getD p 0):=by rw [List.getD_eq_getElem?_getD,List.getElem?_eq_getElem hp];rfl
  have h1:=b7o (A:=nAlg) (h:=hkF (D.ft i) (D.ft i).value) (n:=n) (nets:=D.B (D.ft i)) (p:=0) e
  rw [Nat.zero_add] at h1
  unfold a3i
  rw [h1,List.getElem?_map,List.getElem?_range hp]
  simp only [Option.map_some,Option.some.injEq]
  exact hD.chg_eq hi hn hp
 ·have h1:(a3i nAlg D.nodes (hkF (D.ft i) (D.ft i).value) (D.B (D.ft i)) n).length = (a17 D.nodes n).length:=a70
  rw [List.getElem?_eq_none (by omega),List.getElem?_eq_none (by simp;omega)]
theorem Ded.ok.readsGood {n:Nat}:a3i nAlg D.nodes hk0 D.G n = (List.range (a17 D.nodes n).length).map fun pin=>D.inG n pin:=by
 apply List.ext_getElem?
 intro p
 by_cases hp:p < (a17 D.nodes n).length
 ·have e:(a17 D.nodes n)[p]? = some ((a17 D.nodes n).getD p 0):=by rw [List.getD_eq_getElem?_getD,List.getElem?_eq_getElem hp];rfl
  have h1:=b7o (A:=nAlg) (h:=hk0) (n:=n) (nets:=D.G) (p:=0) e
  rw [Nat.zero_add] at h1
  unfold a3i
  rw [h1,List.getElem?_map,List.getElem?_range hp]
  rfl
 ·have h1:(a3i nAlg D.nodes hk0 D.G n).length = (a17 D.nodes n).length:=a70
  rw [List.getElem?_eq_none (by omega),List.getElem?_eq_none (by simp;omega)]
omit hD in
theorem Ded.chg_sm {n pin i:Nat} (hp:pin < (a17 D.nodes n).length) (h:D.chg n pin i = true):D.sm n i = true:=by
 unfold Ded.sm Ded.smT
 rw [List.any_eq_true]
 refine ⟨pin,List.mem_range.2 hp,?_⟩
 unfold Ded.chg at h
 cases ha:D.at' n pin i with
 | true=>simp
 | false=>rw [ha] at h;simp only [cond_false] at h;rw [h];rfl
theorem Ded.ok.netG {n:Nat} (hn:n < D.nodes.length) (hk:D.comb n = true):D.G.getD n 0 = nAlg.ev (a0c D.nodes n) (a3i nAlg D.nodes hk0 D.G n):=by
 have h:=c2l hD.perm hD.topo hD.comb hD.len hk0 hn
 rw [show c6m D.nodes D.ord D.N0 hk0 = D.G from rfl] at h
 unfold Ded.comb at hk
 simp only [Bool.and_eq_true,decide_eq_true_eq] at hk
 rw [if_pos hk] at h
 exact h
theorem Ded.ok.netG0 {n:Nat} (hn:n < D.nodes.length) (hk:D.comb n = false):D.G.getD n 0 = D.N0.getD n 0:=by
 have h:=c2l hD.perm hD.topo hD.comb hD.len hk0 hn
 rw [show c6m D.nodes D.ord D.N0 hk0 = D.G from rfl] at h
 unfold Ded.comb at hk
 have:¬ (a0c D.nodes n ≠ 0 ∧ a0c D.nodes n ≠ 14):=by
  intro hh
  simp [hh.1,hh.2] at hk
 rw [if_neg this] at h
 exact h
theorem Ded.ok.netB {n i:Nat} (hi:i < D.fs.length) (hn:n < D.nodes.length):(D.B (D.ft i)).getD n 0 = if D.at' n (-1) i then (D.ft i).value else if D.comb n then D.evB n i else D.N0.getD n 0:=by
 have h:=c2l hD.perm hD.topo hD.comb hD.len (hkF (D.ft i) (D.ft i).value) hn
 rw [show c6m D.nodes D.ord D.N0 (hkF (D.ft i) (D.ft i).value) = D.B (D.ft i) from rfl] at h
 rw [h]
 obtain ⟨f1,f2,f3,f4⟩:=hD.flt _ (Ded.ft_mem hi)
 have hh:(D.ft i).hitsNet n = D.at' n (-1) i:=by
  unfold Flt.hitsNet Ded.at'
  rw [Bool.eq_iff_iff]
  simp only [f1,Bool.and_eq_true,Bool.or_eq_true,decide_eq_true_eq]
  constructor
  ·rintro ⟨h1,h2|⟨h2,_⟩⟩
   ·exact ⟨h2.symm,by omega⟩
   ·omega
  ·rintro ⟨h1,h2⟩
   exact ⟨by omega,.inl h1.symm⟩
 unfold hkF
 dsimp only
 rw [hh]
 unfold Ded.comb Ded.evB
 congr 1
 by_cases hk:a0c D.nodes n ≠ 0 ∧ a0c D.nodes n ≠ 14
 ·rw [if_pos hk];simp only [hk.1,hk.2,ne_eq,not_false_eq_true,decide_true,Bool.and_self,if_true];rfl
 ·rw [if_neg hk,if_neg (by simpa using hk)]
theorem Ded.ok.dif_eq {n i:Nat} (hi:i < D.fs.length) (hn:n < D.nodes.length):D.dif n i = bif D.at' n (-1) i then decide ((D.ft i).value ≠ D.G.getD n 0) else D.out1 n i:=by
 unfold Ded.dif Ded.out1
 rw [hD.netB hi hn]
 cases D.at' n (-1) i with
 | true=>simp
 | false=>
  simp only [Bool.false_eq_true,if_false,cond_false]
  cases hc:D.comb n with
  | false=>simp only [Bool.false_eq_true,if_false,Bool.false_and];rw [hD.netG0 hn hc];simp
  | true=>
   simp only [if_true,Bool.true_and]
   cases hs:D.sm n i with
   | true=>simp
   | false=>
    rw [Bool.false_and]
    have hno:∀ pin,pin < (a17 D.nodes n).length → D.chg n pin i = false:=by
     intro pin hp
     cases hg:D.chg n pin i with
     | false=>rfl
     | true=>rw [Ded.chg_sm hp hg] at hs;cases hs
    have:D.evB n i = D.G.getD n 0:=by
     rw [hD.netG hn hc]
     unfold Ded.evB
     rw [hD.reads hi hn,hD.readsGood]
     congr 1
     refine List.map_congr_left fun pin hp=>?_
     rw [hno pin (List.mem_range.1 hp)]
     simp
    simp [this]
theorem Ded.ok.list {n:Nat} (hn:n < D.nodes.length):D.dset n = a1a D.fs.length fun i=>bif D.at' n (-1) i then decide ((D.ft i).value ≠ D.G.getD n 0) else D.out1 n i:=
 a0v fun i hi=>hD.dif_eq hi hn
end
end Go.Pc
/- PcSet: sets of small numbers as ascending lists: a number more, a number less. Plain. -/
namespace Go.Pc
open Go.Ax
theorem b6j {x y:Int} (h:x < y):∀ (l:List Int),c2e x (l ++ [y]) = c2e x l ++ [y]
 | []=>by simp [c2e,h]
 | z :: l=>by
  simp only [List.cons_append,c2e,b6j h l]
  cases decide (x < z)<;>rfl
theorem c3s {x:Int}:∀ {l:List Int},(∀ y ∈ l,y < x) → c2e x l = l ++ [x]
 | [],_=>by simp [c2e]
 | y :: l,h=>by
  have h1:=h y (by simp)
  have ih:=c3s (l:=l) (fun z hz=>h z (by simp [hz]))
  unfold c2e
  simp [ih,show ¬ x < y by omega]
theorem d7r {m:Nat} {q:Nat → Bool} {z:Int} (h:z ∈ a1a m q):z < m:=by
 obtain ⟨i,rfl,hi,_⟩:=a7n.1 h;omega
theorem c3r:∀ {m j:Nat} {q:Nat → Bool},j < m → q j = false → c2e (j:Int) (a1a m q) = a1a m fun k=>q k || decide (k = j)
 | 0,j,q,hj,_=>by omega
 | m + 1,j,q,hj,hq=>by
  rw [c0c,c0c]
  by_cases hm:j = m
  ·subst hm
   rw [hq,if_neg (by simp),List.append_nil,c3s fun y hy=>d7r hy]
   simp only [Bool.false_or,decide_true,if_true]
   congr 1
   refine a0v fun i hi=>?_
   rw [decide_eq_false (by omega),Bool.or_false]
  ·have ih:=c3r (m:=m) (j:=j) (q:=q) (by omega) hq
   rw [decide_eq_false (p:=m = j) (by omega),Bool.or_false]
   cases q m with
   | true=>simp only [if_true];rw [b6j (by omega),ih]
   | false=>simp only [Bool.false_eq_true,if_false,List.append_nil];exact ih
theorem c91 {m j:Nat} {q:Nat → Bool} (hj:j < m):(a1a m q).contains (j:Int) = q j:=by
 rw [Bool.eq_iff_iff,List.contains_iff_mem,c0d]
 simp [hj]
theorem b4i {m j:Nat} {q:Nat → Bool} (hj:j < m):(bif (a1a m q).contains (j:Int) then a1a m q else c2e (j:Int) (a1a m q)) = a1a m fun k=>q k || decide (k = j):=by
 rw [c91 hj]
 cases hq:q j with
 | false=>exact c3r hj hq
 | true=>
  refine a0v fun i _=>?_
  by_cases h:i = j
  ·subst h;simp [hq]
  ·simp [h]
theorem d8d {m j:Nat} {q:Nat → Bool}:(a1a m q).filter (fun y=>!decide (y = (j:Int))) = a1a m fun k=>q k && !decide (k = j):=
 c2g fun i _ _=>by
  congr 1
  rw [Bool.eq_iff_iff,decide_eq_true_eq,decide_eq_true_eq];omega
def met (V:List Int) (k:Nat):Bool:=V.contains (k:Int)
theorem c26 (k:Nat):met [] k = false:=rfl
theorem b0c (V:List Int) (j k:Nat):met (V ++ [(j:Int)]) k = (met V k || decide (k = j)):=by
 unfold met
 rw [Bool.eq_iff_iff,Bool.or_eq_true,List.contains_iff_mem,List.contains_iff_mem,List.mem_append,List.mem_singleton,decide_eq_true_eq]
 exact ⟨fun h=>h.imp id (by omega),fun h=>h.imp id (by omega)⟩
theorem b7z {V:List Int} {m:Nat} {b:Nat → Bool} (h:V.Perm (a1a m b)) {k:Nat} (hk:k < m):met V k = b k:=by
 unfold met
 rw [Bool.eq_iff_iff,List.contains_iff_mem,h.mem_iff,c0d]
 simp [hk]
theorem c8z (m:Nat) (q:Nat → Bool):(a1a m q).Pairwise fun x y=>x < y:=by
 unfold a1a
 refine List.Pairwise.map _ (R:=fun a b=>a < b) (fun a b h=>by omega) ?_
 exact List.Pairwise.filter _ List.pairwise_lt_range
theorem d7s {m:Nat} {q:Nat → Bool} (hm:m ≤ 1000000):∀ i ∈ a1a m q,0 ≤ i ∧ i < 1000000:=fun i hi=>by
 obtain ⟨k,rfl,h,_⟩:=a7n.1 hi;omega
end Go.Pc
/- PcOrd: index lists of a list that is reversed; of a part of it. -/
namespace Go.Pc
open Go.Ax
theorem c7l (m:Nat):(List.range m).reverse = (List.range m).map fun i=>m - 1 - i:=by
 apply List.ext_getElem?
 intro i
 by_cases h:i < m
 ·rw [List.getElem?_reverse (by simpa using h),List.length_range,List.getElem?_range (by omega),List.getElem?_map,List.getElem?_range h];rfl
 ·rw [List.getElem?_eq_none (by simp;omega),List.getElem?_eq_none (by simp;omega)]
theorem c5w (m:Nat) (q:Nat → Bool):(List.range m).filter (fun i=>q (m - 1 - i)) = ((List.range m).filter q).reverse.map fun i=>m - 1 - i:=by
 rw [← List.filter_reverse,c7l,List.filter_map,List.map_map]
 have h:∀ i ∈ (List.range m).filter (q ∘ fun i=>m - 1 - i),((fun i=>m - 1 - i) ∘ fun i=>m - 1 - i) i = id i:=by
  intro i hi
  have:=List.mem_range.1 (List.mem_filter.1 hi).1
  simp only [Function.comp,id];omega
 rw [List.map_congr_left h,List.map_id];rfl
theorem c2m (m s:Nat) (hs:s ≤ m) (q:Nat → Bool):(List.range (m - s)).filter (fun i=>q (i + s)) = (((List.range m).filter q).filter fun i=>decide (s ≤ i)).map fun i=>i - s:=by
 obtain ⟨k,rfl⟩:∃ k,m = s + k:=⟨m - s,by omega⟩
 rw [Nat.add_sub_cancel_left,List.range_add,List.filter_append,List.filter_append,List.map_append]
 have h1:((List.range s).filter q).filter (fun i=>decide (s ≤ i)) = []:=by
  rw [List.filter_eq_nil_iff]
  intro i hi
  have:=List.mem_range.1 (List.mem_filter.1 hi).1
  simp;omega
 rw [h1,List.map_nil,List.nil_append,List.filter_map,List.filter_map,List.map_map]
 have h2:∀ l:List Nat,l.filter ((fun i=>decide (s ≤ i)) ∘ fun x=>s + x) = l:=by
  intro l;rw [List.filter_eq_self];intro a _;simp [Function.comp]
 rw [h2]
 have h3:∀ l:List Nat,l.map ((fun i=>i - s) ∘ fun x=>s + x) = l:=by
  intro l
  have:((fun i=>i - s) ∘ fun x=>s + x) = id:=by funext i;simp [Function.comp]
  rw [this,List.map_id]
 rw [h3]
 congr 1
 funext i;simp only [Function.comp];rw [Nat.add_comm]
theorem d31 (m:Nat) (q:Nat → Bool):a1a m (fun i=>q (m - 1 - i)) = (a1a m q).reverse.map fun z=>(m:Int) - 1 - z:=by
 unfold a1a
 rw [c5w,List.map_map,← List.map_reverse,List.map_map]
 refine List.map_congr_left fun i hi=>?_
 have:=List.mem_range.1 (List.mem_filter.1 (List.mem_reverse.1 hi)).1
 simp only [Function.comp];omega
theorem c8y (m s:Nat) (hs:s ≤ m) (q:Nat → Bool):a1a (m - s) (fun i=>q (i + s)) = ((a1a m q).filter fun z=>decide ((s:Int) ≤ z)).map fun z=>z - (s:Int):=by
 unfold a1a
 rw [c2m m s hs,List.map_map,List.filter_map,List.map_map]
 have e:((fun z:Int=>decide ((s:Int) ≤ z)) ∘ fun i:Nat=>(i:Int)) = fun i:Nat=>decide (s ≤ i):=by funext i;simp [Function.comp]
 rw [e]
 refine List.map_congr_left fun i hi=>?_
 have:s ≤ i:=by simpa using (List.mem_filter.1 hi).2
 simp only [Function.comp];omega
theorem d1t {m:Nat} {S:List Int} {t:Nat} {v:Int} (h:S[t]? = some v):((S.drop t).reverse.map fun z=>(m:Int) - 1 - z) = ((S.drop (t + 1)).reverse.map fun z=>(m:Int) - 1 - z) ++ [(m:Int) - 1 - v]:=by
 have e:S.drop t = v :: S.drop (t + 1):=by
  obtain ⟨hl,rfl⟩:=List.getElem?_eq_some_iff.1 h
  exact List.drop_eq_getElem_cons hl
 rw [e,List.reverse_cons,List.map_append];rfl
def a2o (s:Nat) (S:List Int) (t:Nat):List Int:=((S.take t).filter fun z=>decide ((s:Int) ≤ z)).map fun z=>z - (s:Int)
theorem d72 (s:Nat) (S:List Int):a2o s S 0 = []:=rfl
theorem c7r {s:Nat} {S:List Int} {t:Nat} {v:Int} (h:S[t]? = some v) (hv:(s:Int) ≤ v):a2o s S (t + 1) = a2o s S t ++ [v - s]:=by
 unfold a2o
 rw [List.take_add_one,h,List.filter_append,List.map_append];simp [hv]
theorem d20 {s:Nat} {S:List Int} {t:Nat} {v:Int} (h:S[t]? = some v) (hv:¬ (s:Int) ≤ v):a2o s S (t + 1) = a2o s S t:=by
 unfold a2o
 rw [List.take_add_one,h,List.filter_append,List.map_append];simp [hv]
theorem c7s (s:Nat) (S:List Int) (t:Nat):(a2o s S t).length ≤ S.length:=by
 unfold a2o
 rw [List.length_map]
 refine Nat.le_trans (List.length_filter_le _ _) ?_
 rw [List.length_take];omega
end Go.Pc
