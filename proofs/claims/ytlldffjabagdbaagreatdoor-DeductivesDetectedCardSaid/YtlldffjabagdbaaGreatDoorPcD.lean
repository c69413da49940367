/- PcDed: deductive fault simulation of a plain circuit, by its nets at the end of the order. Plain. -/
import Derived.Test.YtlldffjabagdbaaGreatDoorPcB
import Derived.Test.YtlldffjabagdbaaGreatDoorPcP
import Derived.Test.YtlldffjabagdbaaGreatDoorAxA
set_option linter.unusedSectionVars false
set_option linter.unusedSimpArgs false
set_option linter.unusedVariables false
namespace Go.Pc
open Go.Ax
theorem c1h{h:Hk Nat}{nodes:List Nd}{m:Nat}:∀(l N:List Nat),m∉l→(l.foldl (stepG nAlg nodes h) N).getD m 0=N.getD m 0
 | [],N,_=>rfl
 |n::l,N,hm=>by simp only[List.mem_cons,not_or]at hm;rw[List.foldl_cons,c1h l _ hm.2];unfold stepG;simp only[List.getD_eq_getElem?_getD];rw[List.getElem?_set_ne (λe=>hm.1 e.symm)]
section
variable {nodes:List Nd}{ord:List Nat}(hp:ord.Perm (List.range nodes.length))(ht:e1w nodes ord)(hc:∀n,n<nodes.length→a0e nodes n≠0∧a0e nodes n≠14→a1o (a0e nodes n)=true)
 {N0:List Nat}(hN:N0.length=nodes.length)
def d11(nodes:List Nd)(ord N0:List Nat)(h:Hk Nat):List Nat:=ord.foldl (stepG nAlg nodes h) N0
include hp
theorem c2z:ord.Nodup:=hp.nodup_iff.2 List.nodup_range
theorem b8a{h:Hk Nat}{i m:Nat}(hm:m∈ord.take i):((ord.take i).foldl (stepG nAlg nodes h) N0).getD m 0=(d11 nodes ord N0 h).getD m 0:=by
 have hn:=c2z hp;have e:d11 nodes ord N0 h=(ord.drop i).foldl (stepG nAlg nodes h) ((ord.take i).foldl (stepG nAlg nodes h) N0):=by unfold d11;rw[←List.foldl_append,List.take_append_drop]
 rw[e];refine(c1h _ _ ?_).symm;intro hd;rw[←List.take_append_drop i ord,List.nodup_append]at hn;exact hn.2.2 m hm m hd rfl
theorem c2p{h:Hk Nat}{n:Nat}{N M:List Nat}:∀(l:List Nat) (p:Nat),(∀m∈l,N.getD m 0=M.getD m 0)→a2h nAlg h n N p l=a2h nAlg h n M p l
 | [],_,_=>rfl
 |m::l,p,hm=>by simp only[a2h];rw[show N.getD m nAlg.z=M.getD m nAlg.z from hm m (by simp),c2p l (p+1) λm' h'=>hm m' (by simp[h'])]
include ht hc hN
theorem c67(h:Hk Nat){n:Nat}(hn:n<nodes.length) :
 (d11 nodes ord N0 h).getD n 0=h.net n (if a0e nodes n≠0∧a0e nodes n≠14 then nAlg.ev (a0e nodes n) (a0n nAlg nodes h (d11 nodes ord N0 h) n)else N0.getD n 0):=by
 obtain⟨i,hi⟩:=List.mem_iff_getElem?.1 (hp.mem_iff.2 (List.mem_range.2 hn));have cM:=(List.getElem?_eq_some_iff.1 hi).1;have fj:ord.take (i+1)=ord.take i++[n]:=a0v hi;have bp:n∉ord.take i:=by have h1:=c2z hp;rw[←List.take_append_drop (i+1) ord,fj,List.append_assoc,List.nodup_append]at h1;exact λhm=>h1.2.2 n hm n (by simp) rfl
 rw[←b8a hp (i:=i+1) (by rw[fj];simp),fj,List.foldl_append];simp only[List.foldl_cons,List.foldl_nil];have ai:((ord.take i).foldl (stepG nAlg nodes h) N0).length=nodes.length:=by rw[a6q,hN]
 rw[show ∀N:List Nat,stepG nAlg nodes h N n=N.set n (h.net n (if a0e nodes n≠0∧a0e nodes n≠14 then nAlg.ev (a0e nodes n) (a0n nAlg nodes h N n)else N.getD n nAlg.z))from λ_=>rfl];rw[List.getD_eq_getElem?_getD,List.getElem?_set_self (by rw[ai];exact hn),Option.getD_some]
 congr 1
 split
 ·rename_i hk
  congr 1
  exact c2p hp _ _ λm hm=>b8a hp (ht i n hi (hc n hn hk) m hm)
 ·show((ord.take i).foldl (stepG nAlg nodes h) N0).getD n 0=_;exact c1h _ _ bp
end
/-! ### known values -/
theorem b78{low bK:Nat}(hl:low≤1)(hh:bK≤1)(aF:low≠bK):∀(l:List Nat) (aD:Nat),aD≤1→(∀v∈l,v≤1)→a7u low bK aD l≤1
 | [],aD,h,_=>h
 |v::l,aD,h,hv=>by
  unfold a7u;split
  ·exact hl
  ·rename_i h1;have:v=bK:=by have:=hv v (by simp);omega
   rw[if_pos this];exact b78 hl hh aF l aD h λw hw=>hv w (by simp[hw])
theorem c4x:∀(l:List Nat) (aD:Nat),aD≤1→(∀v∈l,v≤1)→b7r aD l≤1
 | [],aD,h,_=>h
 |v::l,aD,h,hv=>by
  unfold b7r;have nW:=hv v (by simp);rw[if_pos nW];refine c4x l _ ?_ λw hw=>hv w (by simp[hw]);have:∀a b:Fin 2,(a:Nat)^^^(b:Nat)≤1:=by decide
  exact this ⟨aD,by omega⟩ ⟨v,by omega⟩
theorem a6p{l:List Nat}{n d:Nat}(hl:∀v∈l,v≤1)(hn:n<l.length):l.getD n d≤1:=by rw[List.getD_eq_getElem?_getD,List.getElem?_eq_getElem hn];exact hl _ (List.getElem_mem hn)
theorem b36{v:Nat}(h:v≤1):a9a v≤1:=by unfold a9a;rw[if_pos h];omega
theorem c0i{v:Nat}(h:v≤1):a4t v≤1:=by unfold a4t;omega
theorem e3m{k:Nat}{l:List Nat}(hk:a1o k=true)(h12:k≠12)(h13:k≠13)(aG:a1e k≤l.length)(jS:l.length≤a1m k)(hl:∀v∈l,v≤1):nAlg.ev k l≤1:=by
 show a4d k (l.map a2i)≤1;rw[a9v λv hv=>by have:=hl v hv;omega];unfold a4d;rw[if_neg (by omega)];have gp:1≤k∧k≤13:=by simp[a1o]at hk;omega
 have:k=1∨k=2∨k=3∨k=4∨k=5∨k=6∨k=7∨k=8∨k=9∨k=10∨k=11:=by omega
 rcases this with rfl|rfl|rfl|rfl|rfl|rfl|rfl|rfl|rfl|rfl|rfl
 ·exact Nat.zero_le _
 ·exact Nat.le_refl _
 ·exact c0i (a6p hl aG)
 ·exact b36 (a6p hl aG)
 ·exact b78 (by omega) (by omega) (by omega) l 1 (by omega) hl
 ·exact b36 (b78 (by omega) (by omega) (by omega) l 1 (by omega) hl)
 ·exact b78 (by omega) (by omega) (by omega) l 0 (by omega) hl
 ·exact b36 (b78 (by omega) (by omega) (by omega) l 0 (by omega) hl)
 ·exact c4x l 0 (by omega) hl
 ·exact b36 (c4x l 0 (by omega) hl)
 ·have h3:3≤l.length:=by simpa[a1e]using aG
  have a:=a6p (n:=0) (d:=2) hl (by omega);have b:=a6p (n:=1) (d:=2) hl (by omega);have c:=a6p (n:=2) (d:=2) hl (by omega);show c0v (l.getD 0 2) (l.getD 1 2) (l.getD 2 2)≤1;unfold c0v;split
  ·exact c0i b
  split
  ·exact c0i c
  ·omega
/-! ### the lists -/
structure Ded where
 nodes:List Nd
 ord:List Nat
 N0:List Nat
 fs:List Flt
namespace Ded
variable (D:Ded)
def G:List Nat:=d11 D.nodes D.ord D.N0 hk0
def B(f:Flt):List Nat:=d11 D.nodes D.ord D.N0 (hkF f f.value)
def ft(i:Nat):Flt:=D.fs.getD i ⟨0,0,0,0,0⟩
def dif(n i:Nat):Bool:=decide ((D.B (D.ft i)).getD n 0≠D.G.getD n 0)
def dset(n:Nat):List Int:=a1p D.fs.length (D.dif n)
def at'(n:Nat)(pin:Int)(i:Nat):Bool:=decide ((D.ft i).node=n)&&decide ((D.ft i).pin=pin)
def inG(n pin:Nat):Nat:=D.G.getD ((a15 D.nodes n).getD pin 0) 0
def chg(n pin i:Nat):Bool:=bif D.at' n pin i then decide ((D.ft i).value≠D.inG n pin)else D.dif ((a15 D.nodes n).getD pin 0) i
def smT(n t i:Nat):Bool:=(List.range t).any λpin=>D.dif ((a15 D.nodes n).getD pin 0) i||D.at' n pin i
def sm(n i:Nat):Bool:=D.smT n (a15 D.nodes n).length i
def comb(n:Nat):Bool:=decide (a0e D.nodes n≠0)&&decide (a0e D.nodes n≠14)
def evB(n i:Nat):Nat:=nAlg.ev (a0e D.nodes n) (a0n nAlg D.nodes (hkF (D.ft i) (D.ft i).value) (D.B (D.ft i)) n)
def out1(n i:Nat):Bool:=D.comb n&&(D.sm n i&&decide (D.evB n i≠D.G.getD n 0))
structure ok:Prop where
 perm:D.ord.Perm (List.range D.nodes.length)
 topo:e1w D.nodes D.ord
 comb:∀n,n<D.nodes.length→a0e D.nodes n≠0∧a0e D.nodes n≠14→a1o (a0e D.nodes n)=true
 inn:∀n,n<D.nodes.length→∀m∈a15 D.nodes n,m<D.nodes.length
 lo:∀n,n<D.nodes.length→a1e (a0e D.nodes n)≤(a15 D.nodes n).length
 hi:∀n,n<D.nodes.length→(a15 D.nodes n).length≤a1m (a0e D.nodes n)
 plain:∀n,n<D.nodes.length→a0e D.nodes n≠12∧a0e D.nodes n≠13
 len:D.N0.length=D.nodes.length
 bit:∀v∈D.N0,v≤1
 flt:∀f∈D.fs,f.model=0∧f.value≤1∧ -1≤f.pin∧f.node<D.nodes.length
end Ded
section
variable {D:Ded}
theorem Ded.ft_mem{i:Nat}(hi:i<D.fs.length):D.ft i∈D.fs:=by unfold Ded.ft;rw[List.getD_eq_getElem?_getD,List.getElem?_eq_getElem hi];exact List.getElem_mem hi
def Hk1(h:Hk Nat):Prop:=(∀n v,v≤1→h.net n v≤1)∧∀n p v,v≤1→h.pin n p v≤1
theorem f5p:Hk1 hk0:=⟨λ_ _ h=>h,λ_ _ _ h=>h⟩
theorem e99{f:Flt}{v:Nat}(h:v≤1):Hk1 (hkF f v):=by
 constructor
 ·intro n w hw;unfold hkF;dsimp only;split
  ·exact h
  ·exact hw
 ·intro n p w hw;unfold hkF;dsimp only;split
  ·exact h
  ·exact hw
variable (hD:D.ok)
include hD
theorem Ded.ok.rds_bit{h:Hk Nat}(hh:Hk1 h){N:List Nat}(hl:N.length=D.nodes.length)(hN:∀v∈N,v≤1)(n:Nat):∀(l:List Nat) (p:Nat),(∀m∈l,m<D.nodes.length)→∀v∈a2h nAlg h n N p l,v≤1
 | [],p,_,v,hv=>by simp[a2h]at hv
 |m::l,p,hm,v,hv=>by
  simp only[a2h,List.mem_cons]at hv;rcases hv with rfl|hv
  ·exact hh.2 _ _ _ (a6p hN (by rw[hl];exact hm m (by simp)))
  ·exact Ded.ok.rds_bit hh hl hN n l (p+1) (λm' h'=>hm m' (by simp[h'])) v hv
theorem Ded.ok.ev_bit{h:Hk Nat}(hh:Hk1 h){N:List Nat}(hl:N.length=D.nodes.length)(hN:∀v∈N,v≤1){n:Nat}(hn:n<D.nodes.length)(hk:a0e D.nodes n≠0∧a0e D.nodes n≠14):nAlg.ev (a0e D.nodes n) (a0n nAlg D.nodes h N n)≤1:=e3m (hD.comb n hn hk) (hD.plain n hn).1 (hD.plain n hn).2 (by rw[a2r];exact hD.lo n hn) (by rw[a2r];exact hD.hi n hn) (hD.rds_bit hh hl hN n _ 0 (hD.inn n hn))
theorem Ded.ok.fold_bit{h:Hk Nat}(hh:Hk1 h):∀(l N:List Nat),(∀n∈l,n<D.nodes.length)→N.length=D.nodes.length→(∀v∈N,v≤1)→∀v∈l.foldl (stepG nAlg D.nodes h) N,v≤1
 | [],N,_,_,hN=>hN
 |n::l,N,hl,ai,hN=>by
  rw[List.foldl_cons];have hn:=hl n (by simp);refine Ded.ok.fold_bit hh l _ (λm hm=>hl m (by simp[hm])) (by rw[b5c,ai]) ?_;intro v hv;unfold stepG at hv;rcases List.mem_or_eq_of_mem_set hv with h1|h1
  ·exact hN v h1
  ·rw[h1];refine hh.1 _ _ ?_;split
   ·rename_i hk;exact hD.ev_bit hh ai hN hn hk
   ·exact a6p hN (by rw[ai];exact hn)
theorem Ded.ok.ordl:∀n∈D.ord,n<D.nodes.length:=λn hn=>by simpa using hD.perm.mem_iff.1 hn
theorem Ded.ok.G_bit:∀v∈D.G,v≤1:=hD.fold_bit f5p _ _ hD.ordl hD.len hD.bit
theorem Ded.ok.G_len:D.G.length=D.nodes.length:=by unfold Ded.G d11;rw[a6q,hD.len]
theorem Ded.ok.B_len(f:Flt):(D.B f).length=D.nodes.length:=by unfold Ded.B d11;rw[a6q,hD.len]
theorem Ded.ok.B_bit{f:Flt}(hf:f.value≤1):∀v∈D.B f,v≤1:=hD.fold_bit (e99 hf) _ _ hD.ordl hD.len hD.bit
theorem Ded.ok.val{i:Nat}(hi:i<D.fs.length):(D.ft i).value≤1:=(hD.flt _ (Ded.ft_mem hi)).2.1
theorem Ded.ok.G1{n:Nat}(hn:n<D.nodes.length):D.G.getD n 0≤1:=a6p hD.G_bit (by rw[hD.G_len];exact hn)
theorem Ded.ok.B1{n i:Nat}(hi:i<D.fs.length)(hn:n<D.nodes.length):(D.B (D.ft i)).getD n 0≤1:=a6p (hD.B_bit (hD.val hi)) (by rw[hD.B_len];exact hn)
omit hD in
theorem e3b{i:Nat}{n pin:Nat}(w:Nat):(hkF (D.ft i) (D.ft i).value).pin n pin w=bif D.at' n pin i then(D.ft i).value else w:=by
 unfold hkF Flt.hitsPin Ded.at';dsimp only;by_cases h1:(D.ft i).node=n<;>by_cases h2:(D.ft i).pin=pin
 ·subst h1;simp[h2]
 ·have:¬((pin:Int)=(D.ft i).pin):=λe=>h2 e.symm;simp[h2,this]
 ·have:¬(n=(D.ft i).node):=λe=>h1 e.symm;simp[h1,this]
 ·have:¬(n=(D.ft i).node):=λe=>h1 e.symm;simp[h1,this]
theorem Ded.ok.chg_eq{n pin i:Nat}(hi:i<D.fs.length)(hn:n<D.nodes.length)(hp:pin<(a15 D.nodes n).length) :
 (hkF (D.ft i) (D.ft i).value).pin n pin ((D.B (D.ft i)).getD ((a15 D.nodes n).getD pin 0) 0)=if D.chg n pin i then a9a (D.inG n pin)else D.inG n pin:=by
 have hm:(a15 D.nodes n).getD pin 0<D.nodes.length:=by rw[List.getD_eq_getElem?_getD,List.getElem?_eq_getElem hp];exact hD.inn n hn _ (List.getElem_mem hp)
 have h1:=hD.G1 hm;have h2:=hD.B1 hi hm;have h3:=hD.val hi;rw[e3b];unfold Ded.chg Ded.inG;have flip:∀x y:Nat,x≤1→y≤1→x=if decide (x≠y)=true then a9a y else y:=by
  intro x y hx hy;by_cases e:x=y
  ·simp[e]
  ·simp only[ne_eq,e,not_false_eq_true,decide_true,if_true];unfold a9a;rw[if_pos hy];omega
 cases D.at' n pin i with
 |true=>simp only[cond_true];exact flip _ _ h3 h1
 |false=>simp only[cond_false];exact flip _ _ h2 h1
theorem Ded.ok.reads{n i:Nat}(hi:i<D.fs.length)(hn:n<D.nodes.length) :
 a0n nAlg D.nodes (hkF (D.ft i) (D.ft i).value) (D.B (D.ft i)) n=(List.range (a15 D.nodes n).length).map λpin=>if D.chg n pin i then a9a (D.inG n pin)else D.inG n pin:=by
 apply List.ext_getElem?;intro p;by_cases hp:p<(a15 D.nodes n).length
 ·have e:(a15 D.nodes n)[p]?=some ((a15 D.nodes n).getD p 0):=by rw[List.getD_eq_getElem?_getD,List.getElem?_eq_getElem hp];rfl
  have h1:=c0k (A:=nAlg) (h:=hkF (D.ft i) (D.ft i).value) (n:=n) (nets:=D.B (D.ft i)) (p:=0) e;rw[Nat.zero_add]at h1;unfold a0n;rw[h1,List.getElem?_map,List.getElem?_range hp];simp only[Option.map_some,Option.some.injEq];exact hD.chg_eq hi hn hp
 ·have h1:(a0n nAlg D.nodes (hkF (D.ft i) (D.ft i).value) (D.B (D.ft i)) n).length=(a15 D.nodes n).length:=a2r;rw[List.getElem?_eq_none (by omega),List.getElem?_eq_none (by simp;omega)]
theorem Ded.ok.readsGood{n:Nat}:a0n nAlg D.nodes hk0 D.G n=(List.range (a15 D.nodes n).length).map λpin=>D.inG n pin:=by
 apply List.ext_getElem?;intro p;by_cases hp:p<(a15 D.nodes n).length
 ·have e:(a15 D.nodes n)[p]?=some ((a15 D.nodes n).getD p 0):=by rw[List.getD_eq_getElem?_getD,List.getElem?_eq_getElem hp];rfl
  have h1:=c0k (A:=nAlg) (h:=hk0) (n:=n) (nets:=D.G) (p:=0) e;rw[Nat.zero_add]at h1;unfold a0n;rw[h1,List.getElem?_map,List.getElem?_range hp];rfl
 ·have h1:(a0n nAlg D.nodes hk0 D.G n).length=(a15 D.nodes n).length:=a2r;rw[List.getElem?_eq_none (by omega),List.getElem?_eq_none (by simp;omega)]
omit hD in
theorem Ded.chg_sm{n pin i:Nat}(hp:pin<(a15 D.nodes n).length)(h:D.chg n pin i=true):D.sm n i=true:=by
 unfold Ded.sm Ded.smT;rw[List.any_eq_true];refine⟨pin,List.mem_range.2 hp,?_⟩;unfold Ded.chg at h;cases ha:D.at' n pin i with
 |true=>simp
 |false=>rw[ha]at h;simp only[cond_false]at h;rw[h];rfl
theorem Ded.ok.netG{n:Nat}(hn:n<D.nodes.length)(hk:D.comb n=true):D.G.getD n 0=nAlg.ev (a0e D.nodes n) (a0n nAlg D.nodes hk0 D.G n):=by have h:=c67 hD.perm hD.topo hD.comb hD.len hk0 hn;rw[show d11 D.nodes D.ord D.N0 hk0=D.G from rfl]at h;unfold Ded.comb at hk;simp only[Bool.and_eq_true,decide_eq_true_eq]at hk;rw[if_pos hk]at h;exact h
theorem Ded.ok.netG0{n:Nat}(hn:n<D.nodes.length)(hk:D.comb n=false):D.G.getD n 0=D.N0.getD n 0:=by
 have h:=c67 hD.perm hD.topo hD.comb hD.len hk0 hn;rw[show d11 D.nodes D.ord D.N0 hk0=D.G from rfl]at h;unfold Ded.comb at hk;have:¬(a0e D.nodes n≠0∧a0e D.nodes n≠14):=by intro hh;simp[hh.1,hh.2]at hk
 rw[if_neg this]at h;exact h
theorem Ded.ok.netB{n i:Nat}(hi:i<D.fs.length)(hn:n<D.nodes.length):(D.B (D.ft i)).getD n 0=if D.at' n (-1) i then(D.ft i).value else if D.comb n then D.evB n i else D.N0.getD n 0:=by
 have h:=c67 hD.perm hD.topo hD.comb hD.len (hkF (D.ft i) (D.ft i).value) hn;rw[show d11 D.nodes D.ord D.N0 (hkF (D.ft i) (D.ft i).value)=D.B (D.ft i)from rfl]at h;rw[h];obtain⟨f1,f2,f3,f4⟩:=hD.flt _ (Ded.ft_mem hi);have hh:(D.ft i).hitsNet n=D.at' n (-1) i:=by
  unfold Flt.hitsNet Ded.at';rw[Bool.eq_iff_iff];simp only[f1,Bool.and_eq_true,Bool.or_eq_true,decide_eq_true_eq];constructor
  ·rintro⟨h1,h2|⟨h2,_⟩⟩
   ·exact⟨h2.symm,by omega⟩
   ·omega
  ·rintro⟨h1,h2⟩
   exact⟨by omega,.inl h1.symm⟩
 unfold hkF;dsimp only;rw[hh];unfold Ded.comb Ded.evB
 congr 1
 by_cases hk:a0e D.nodes n≠0∧a0e D.nodes n≠14
 ·rw[if_pos hk];simp only[hk.1,hk.2,ne_eq,not_false_eq_true,decide_true,Bool.and_self,if_true];rfl
 ·rw[if_neg hk,if_neg (by simpa using hk)]
theorem Ded.ok.dif_eq{n i:Nat}(hi:i<D.fs.length)(hn:n<D.nodes.length):D.dif n i=bif D.at' n (-1) i then decide ((D.ft i).value≠D.G.getD n 0)else D.out1 n i:=by
 unfold Ded.dif Ded.out1;rw[hD.netB hi hn];cases D.at' n (-1) i with
 |true=>simp
 |false=>
  simp only[Bool.false_eq_true,if_false,cond_false];cases hc:D.comb n with
  |false=>simp only[Bool.false_eq_true,if_false,Bool.false_and];rw[hD.netG0 hn hc];simp
  |true=>
   simp only[if_true,Bool.true_and];cases hs:D.sm n i with
   |true=>simp
   |false=>
    rw[Bool.false_and];have dv:∀pin,pin<(a15 D.nodes n).length→D.chg n pin i=false:=by
     intro pin hp;cases hg:D.chg n pin i with
     |false=>rfl
     |true=>rw[Ded.chg_sm hp hg]at hs;cases hs
    have:D.evB n i=D.G.getD n 0:=by
     rw[hD.netG hn hc];unfold Ded.evB;rw[hD.reads hi hn,hD.readsGood]
     congr 1
     refine List.map_congr_left λpin hp=>?_;rw[dv pin (List.mem_range.1 hp)];simp
    simp[this]
theorem Ded.ok.list{n:Nat}(hn:n<D.nodes.length):D.dset n=a1p D.fs.length λi=>bif D.at' n (-1) i then decide ((D.ft i).value≠D.G.getD n 0)else D.out1 n i:=a19 λi hi=>hD.dif_eq hi hn
end
end Go.Pc
/- PcSet: sets of small numbers as ascending lists: a number more, a number less. Plain. -/
namespace Go.Pc
open Go.Ax
theorem b96{x y:Int}(h:x<y):∀(l:List Int),c5y x (l++[y])=c5y x l++[y]
 | []=>by simp[c5y,h]
 |z::l=>by simp only[List.cons_append,c5y,b96 h l];cases decide (x<z)<;>rfl
theorem c7m{x:Int}:∀{l:List Int},(∀y∈l,y<x)→c5y x l=l++[x]
 | [],_=>by simp[c5y]
 |y::l,h=>by have h1:=h y (by simp);have ih:=c7m (l:=l) (λz hz=>h z (by simp[hz]));unfold c5y;simp[ih,show ¬x<y by omega]
theorem e48{m:Nat}{q:Nat→Bool}{z:Int}(h:z∈a1p m q):z<m:=by obtain⟨i,rfl,hi,_⟩:=b0j.1 h;omega
theorem c7l:∀{m j:Nat} {q:Nat→Bool},j<m→q j=false→c5y (j:Int) (a1p m q)=a1p m λk=>q k||decide (k=j)
 |0,j,q,hj,_=>by omega
 |m+1,j,q,hj,hq=>by
  rw[c3n,c3n];by_cases hm:j=m
  ·subst hm;rw[hq,if_neg (by simp),List.append_nil,c7m λy hy=>e48 hy];simp only[Bool.false_or,decide_true,if_true]
   congr 1
   refine a19 λi hi=>?_;rw[decide_eq_false (by omega),Bool.or_false]
  ·have ih:=c7l (m:=m) (j:=j) (q:=q) (by omega) hq;rw[decide_eq_false (p:=m=j) (by omega),Bool.or_false];cases q m with
   |true=>simp only[if_true];rw[b96 (by omega),ih]
   |false=>simp only[Bool.false_eq_true,if_false,List.append_nil];exact ih
theorem d3v{m j:Nat}{q:Nat→Bool}(hj:j<m):(a1p m q).contains (j:Int)=q j:=by rw[Bool.eq_iff_iff,List.contains_iff_mem,c3o];simp[hj]
theorem b6k{m j:Nat}{q:Nat→Bool}(hj:j<m):(bif (a1p m q).contains (j:Int)then a1p m q else c5y (j:Int) (a1p m q))=a1p m λk=>q k||decide (k=j):=by
 rw[d3v hj];cases hq:q j with
 |false=>exact c7l hj hq
 |true=>
  refine a19 λi _=>?_;by_cases h:i=j
  ·subst h;simp[hq]
  ·simp[h]
theorem e55{m j:Nat}{q:Nat→Bool}:(a1p m q).filter (λy=>!decide (y=(j:Int)))=a1p m λk=>q k && !decide (k=j):=
 c61 λi _ _=>by
  congr 1
  rw[Bool.eq_iff_iff,decide_eq_true_eq,decide_eq_true_eq];omega
def met(V:List Int)(k:Nat):Bool:=V.contains (k:Int)
theorem c5p(k:Nat):met [] k=false:=rfl
theorem b1v(V:List Int)(j k:Nat):met (V++[(j:Int)]) k=(met V k||decide (k=j)):=by unfold met;rw[Bool.eq_iff_iff,Bool.or_eq_true,List.contains_iff_mem,List.contains_iff_mem,List.mem_append,List.mem_singleton,decide_eq_true_eq];exact⟨λh=>h.imp id (by omega),λh=>h.imp id (by omega)⟩
theorem c0w{V:List Int}{m:Nat}{b:Nat→Bool}(h:V.Perm (a1p m b)){k:Nat}(hk:k<m):met V k=b k:=by unfold met;rw[Bool.eq_iff_iff,List.contains_iff_mem,h.mem_iff,c3o];simp[hk]
theorem d3r(m:Nat)(q:Nat→Bool):(a1p m q).Pairwise λx y=>x<y:=by unfold a1p;refine List.Pairwise.map _ (R:=λa b=>a<b) (λa b h=>by omega) ?_;exact List.Pairwise.filter _ List.pairwise_lt_range
theorem e49{m:Nat}{q:Nat→Bool}(hm:m≤1000000):∀i∈a1p m q,0≤i∧i<1000000:=λi hi=>by obtain⟨k,rfl,h,_⟩:=b0j.1 hi;omega
end Go.Pc
