/- Part of a proof. No condition. -/
import Derived.Test.YtmbmjfjagololaaGreatDoorRRo
set_option linter.unusedSectionVars false
set_option linter.unusedSimpArgs false
set_option linter.unusedVariables false
namespace Go.RInst
open Go.Proofs Go.Ax Go.Pc
variable [PR]
set_option maxRecDepth 100000
/-! ### the normal form of a b4l -/
theorem c8k(u:List UInt8)(b:UInt8):a09 (u++[b])=10*a09 u+(b.toNat-48):=by unfold a09;rw[List.foldl_append];rfl
theorem d7m:∀(n:Nat) (w:List UInt8),w.length=n→(∃a,w[0]?=some a∧a.toNat≠48)→(∀b∈w,b4r b)→Lib.decDigits (a09 w)=w∧0<a09 w
 |0,w,hn,⟨a,ha,_⟩,_=>by have:w=[]:=e6e.1 hn;subst this;simp at ha
 |n+1,w,hn,⟨a,ha,hz⟩,hd=>by
  rcases c0k w with rfl|⟨u,b,rfl⟩
  ·simp at hn
  have hb:=hd b (by simp);have du:=hb.1;have d7:=hb.2;have key:UInt8.ofNat (48+(b.toNat-48))=b:=by rw[show 48+(b.toNat-48)=b.toNat by omega];simp
  rw[c8k];cases hu:u with
  |nil=>
   rw[hu]at ha;have:b=a:=by simpa using ha
   subst this;have e0:a09 ([]:List UInt8)=0:=rfl;rw[e0];refine⟨?_,by omega⟩;rw[Lib.decDigits,dif_pos (by omega),Nat.mul_zero,e55,key];rfl
  |cons c r=>rw[←hu];obtain⟨h1,h2⟩:=d7m n u (by simp at hn;exact hn) ⟨a,by rw[hu]at ha⊢;simpa using ha,hz⟩ λx hx=>hd x (by simp[hx]);refine⟨?_,by omega⟩;rw[Lib.decDigits,dif_neg (by omega),show(10*a09 u+(b.toNat-48))/10=a09 u by omega,show(10*a09 u+(b.toNat-48))%10=b.toNat-48 by omega,h1,key]
theorem b12{w:List UInt8}(h:NumOk w):Lib.itoa ((a09 w:Nat):Int)=w:=by
 unfold Lib.itoa;rw[e2i (by omega),Int.toNat_natCast];rcases h.z with rfl|hz
 ·rw[Lib.decDigits,dif_pos (by decide)];rfl
 ·exact(d7m _ w rfl hz h.d).1
theorem e1c:Lib.itoa 1=[49]:=by unfold Lib.itoa;rw[e2i (by decide)];show Lib.decDigits 1=_;rw[Lib.decDigits,dif_pos (by decide)];rfl
def c77:List (List UInt8)→List UInt8
 | []=>[]
 |w0::tl=>if w0.head?=some 35 then[]else lnT (if tl.length=3∧w0=vecK0∧tl[2]?=some [49]then w0::tl.take 2 else w0::tl)
def nrm(s:List UInt8):List UInt8:=(a00 10 s).flatMap λu=>c77 (a2i (a00 32 u))
theorem b38(w0:List UInt8)(tl:List (List UInt8)):c77 (w0::tl)=if w0.head?=some 35 then[]else lnT (if tl.length=3∧w0=vecK0∧tl[2]?=some [49]then w0::tl.take 2 else w0::tl):=rfl
theorem d10(A B:List Sg):txS (A++B)=txS A++txS B:=List.flatMap_append ..
theorem d0z(A B:List Tm):txT (A++B)=txT A++txT B:=List.flatMap_append ..
theorem d0y(T:List Tm)(A B:List Vc):txV T (A++B)=txV T A++txV T B:=List.flatMap_append ..
theorem b89{r r':Rd}{nm cl:List UInt8}{k:Nat}(h:b0h r nm cl k=some r')(aX:cl≠[]):b4l r'.S r'.T r'.V=b4l r.S r.T r.V++lnT ([vecK0,nm,cl]++if(k:Int)=1 then[]else[Lib.itoa (k:Int)]):=by
 unfold b0h at h;split at h
 case isFalse=>cases h
 rename_i hc;cases h;obtain⟨hv,_,_⟩:=hc;simp only[a22,b46,e2d]at hv;obtain⟨b1,b2,b3,b4,b5⟩:=hv;have b1:0≤fnd nm (r.T.map Tm.name):=b1;rcases a82 nm (r.T.map Tm.name)with ⟨hf,_⟩|⟨m,hf,hm,_⟩
 ·rw[hf]at b1;omega
 obtain⟨t,ht,jH⟩:∃t,r.T[m]?=some t∧t.name=nm:=by rw[e2e]at hm;obtain⟨t,h1,h2⟩:=e6g.1 hm;exact⟨t,h1,h2⟩
 show txS r.S++txT r.T++txV r.T (r.V++[b4m r nm cl k])=txS r.S++txT r.T++txV r.T r.V++_;rw[d0y,←e5j]
 congr 1
 have bd:=b2p r.T (b4m r nm cl k) t (by simp only[b4m,hf,Int.toNat_natCast];exact ht);show lnT (a8z r.T (b4m r nm cl k))++[]=_;rw[e2h,bd,jH];have fi:(if(b4m r nm cl k).cells=[]then[45]else(b4m r nm cl k).cells)=cl:=by
  have hx:(b4m r nm cl k).cells=if cl=[45]then[]else cl:=rfl
  by_cases qT:cl=[45]
  ·rw[e3g qT]at hx;rw[e3g hx,qT]
  ·rw[e2i qT]at hx;rw[e2i (by rw[hx];exact aX),hx]
 rw[fi];rfl
theorem c81{r r':Rd}{ws:List (List UInt8)}(h:rdW r ws=some r')(hb:∀w∈ws,w≠[]):b4l r'.S r'.T r'.V=b4l r.S r.T r.V++c77 ws:=by
 cases ws with
 |nil=>cases h;simp[c77]
 |cons w0 tl=>
  rw[a6t]at h;rw[b38];split at h
  ·rename_i jp;cases h;rw[e3g jp,e2h]
  rename_i jp;rw[e2i jp];split at h
  ·rename_i hk;subst hk;have qg:¬sigK0=vecK0:=by decide
   rw[e2i λe=>qg e.2.1];unfold rdS at h;split at h
   case h_2=>cases h
   split at h
   case isFalse=>cases h
   rename_i nm d hc;cases h;obtain⟨hd,hT,hV,_⟩:=hc;obtain⟨S,T,V,sm⟩:=r;simp only at hT hV⊢;subst hT;subst hV;have ql:¬inK=a9h:=by decide
   have qv:(if(if d=a9h then(1:Nat)else 0)=1 then a9h else inK)=d:=by
    rcases hd with rfl|rfl
    ·rw[e2i ql,e2i (by decide)]
    ·rw[e3g rfl,e3g rfl]
   simp only[b4l,d10,txT,txV,List.flatMap_nil,e2h];show txS S++(lnT (a6n ⟨nm,_⟩)++[])=_;rw[e2h];simp only[a6n,qv]
  split at h
  ·rename_i hk;subst hk;have qg:¬a3y=vecK0:=by decide
   rw[e2i λe=>qg e.2.1];unfold rdT at h;split at h
   case h_2=>cases h
   split at h
   case isFalse=>cases h
   rename_i nm w0 w1 w2 w3 w4 hc;cases h;obtain⟨hV,hn,_⟩:=hc;obtain⟨S,T,V,sm⟩:=r;simp only at hV⊢;subst hV;have a0:=b12 (hn w0 (by simp));have a1:=b12 (hn w1 (by simp));have a2:=b12 (hn w2 (by simp));have a3:=b12 (hn w3 (by simp));have a4:=b12 (hn w4 (by simp));simp only[b4l,d0z,txV,List.flatMap_nil,e2h,e5j]
   congr 2
   show lnT (b0g _)++[]=_;rw[e2h];simp only[b0g,a57,e2b,e3a,a0,a1,a2,a3,a4];rfl
  split at h
  ·rename_i hk;subst hk;unfold rdV at h;split at h
   ·rename_i nm cl;have:=b89 h (hb cl (by simp));rw[this];rfl
   ·split at h
    case isFalse=>cases h
    rename_i nm cl rp bB;have:=b89 h (hb cl (by simp));rw[this];have ir:=b12 bB
    congr 2
    by_cases h1:rp=[49]
    ·subst h1;rfl
    ·have aK:¬((a09 rp:Nat):Int)=1:=by
      intro e;rw[e]at ir;exact h1 (ir.symm.trans e1c)
     rw[e2i aK,e2i (by intro e;exact h1 (by simpa using e.2.2)),ir];rfl
   ·cases h
  ·cases h
theorem b5f:∀(L:List (List UInt8)) (r r':Rd),a2a r L=some r'→b4l r'.S r'.T r'.V=b4l r.S r.T r.V++L.flatMap λu=>c77 (a2i (a00 32 u))
 | [],r,r',h=>by cases h;simp
 |u::L,r,r',h=>by
  rw[a8g]at h;cases hl:a2v r u with
  |none=>rw[hl]at h;cases h
  |some r1=>
   rw[hl]at h;have ih:=b5f L r1 r' h;unfold a2v at hl;split at hl
   case isFalse=>cases hl
   have h1:=c81 hl λw hw=>by have:=(List.mem_filter.1 hw).2;simpa using this
   rw[ih,h1,e71,e5j]
theorem b88{s:List UInt8}{r:Rd}(h:a2a ⟨[],[],[],0⟩ (a00 10 s)=some r):b4l r.S r.T r.V=nrm s:=by have:=b5f _ _ _ h;rw[this];rfl
end Go.RInst
namespace Go.RInst
open Go.Proofs Go.Ax Go.Pc
variable [PR]
set_option maxRecDepth 100000
/-! ### what is read is a valid program -/
structure RdOk(r:Rd):Prop where
 sg:∀s∈r.S,a9n s=true
 tm:∀t∈r.T,a5l t=true
 vc:∀v∈r.V,a22 v r.S r.T.length=true
 sn:(r.S.map Sg.name).Nodup
 tn:(r.T.map Tm.name).Nodup
 hT:r.T.length≤16
 sum:r.sum=a1g r.V
 le:r.sum≤1000000
theorem e14:RdOk ⟨[],[],[],0⟩:=⟨by simp,by simp,by simp,by simp,by simp,by simp,rfl,by decide⟩
theorem d03{l:List (List UInt8)}{x:List UInt8}(h:l.Nodup)(hx:x∉l):(l++[x]).Nodup:=by rw[List.nodup_append];exact⟨h,by simp,λa ha b hb=>by rw[e3r.1 hb];rintro rfl;exact hx ha⟩
theorem c4q{r r':Rd}{nm cl:List UInt8}{k:Nat}(h:b0h r nm cl k=some r')(hr:RdOk r):RdOk r':=by
 unfold b0h at h;split at h
 case isFalse=>cases h
 rename_i hc;cases h;obtain⟨hv,_,hs⟩:=hc;refine⟨hr.sg,hr.tm,λv ce=>?_,hr.sn,hr.tn,hr.hT,?_,hs⟩
 ·rcases e65.1 ce with ce|ce
  ·exact hr.vc v ce
  ·rw[e3r.1 ce];exact hv
 ·show r.sum+k=a1g (r.V++[b4m r nm cl k]);rw[hr.sum];simp[a1g,b4m]
theorem d69{r r':Rd}{ws:List (List UInt8)}(h:rdW r ws=some r')(hr:RdOk r):RdOk r':=by
 cases ws with
 |nil=>cases h;exact hr
 |cons w0 tl=>
  rw[a6t]at h;split at h
  ·cases h;exact hr
  split at h
  ·unfold rdS at h;split at h
   case h_2=>cases h
   split at h
   case isFalse=>cases h
   rename_i nm d hc;cases h;obtain⟨hd,hT,hV,hn,bP,_⟩:=hc;refine⟨λs hs=>?_,hr.tm,?_,?_,hr.tn,hr.hT,hr.sum,hr.le⟩
   ·rcases e65.1 hs with hs|hs
    ·exact hr.sg s hs
    ·rw[e3r.1 hs];unfold a9n;simp only[hn,e6d,e2d];split<;>omega
   ·simp only[hV];intro v hv;cases hv
   ·simp only[e3j,e2b,e3a];exact d03 hr.sn bP
  split at h
  ·unfold rdT at h;split at h
   case h_2=>cases h
   split at h
   case isFalse=>cases h
   rename_i nm w0 w1 w2 w3 w4 hc;cases h;obtain⟨hV,_,ht,bP,hl⟩:=hc;refine⟨hr.sg,λt hm=>?_,?_,hr.sn,?_,by simp only[e2f,e68];omega,hr.sum,hr.le⟩
   ·rcases e65.1 hm with hm|hm
    ·exact hr.tm t hm
    ·rw[e3r.1 hm];exact ht
   ·simp only[hV];intro v hv;cases hv
   ·simp only[e3j,e2b,e3a];exact d03 hr.tn bP
  split at h
  ·unfold rdV at h;split at h
   ·exact c4q h hr
   ·split at h
    ·exact c4q h hr
    ·cases h
   ·cases h
  ·cases h
theorem c4r{r r':Rd}{u:List UInt8}(h:a2v r u=some r')(hr:RdOk r):RdOk r':=by
 unfold a2v at h;split at h
 ·exact d69 h hr
 ·cases h
theorem c1h:∀(L:List (List UInt8)) (r r':Rd),a2a r L=some r'→RdOk r→RdOk r'
 | [],r,r',h,hr=>by cases h;exact hr
 |u::L,r,r',h,hr=>by
  rw[a8g]at h;cases hl:a2v r u with
  |none=>rw[hl]at h;cases h
  |some r1=>rw[hl]at h;exact c1h L r1 r' h (c4r hl hr)
/-! lengths -/
def wl(ws:List (List UInt8)):Nat:=(ws.map λw=>w.length+1).sum
theorem a38(w:List UInt8)(ws:List (List UInt8)):wl (w::ws)=w.length+1+wl ws:=by simp[wl]
theorem a8a(c:UInt8):∀s,wl (a00 c s)=s.length+1
 | []=>rfl
 |b::r=>by
  have ih:=a8a c r;rw[a00];split
  ·rw[a38,ih];simp;omega
  ·cases hs:a00 c r with
   |nil=>exact absurd hs (b2v c r)
   |cons p ps=>rw[hs,a38]at ih;simp only[a38,b94];omega
theorem c9f(l:List (List UInt8)):wl (a2i l)≤wl l:=by
 induction l with
 |nil=>exact e2c _
 |cons w l ih=>
  rw[c64,a38];split
  ·omega
  ·rw[a38];omega
theorem b2o:∀(l:List (List UInt8)) (n:Nat),wl (l.take n)≤wl l
 | [],n=>by simp
 |w::l,0=>by simp[wl]
 |w::l,n+1=>by rw[c35,a38,a38];have:=b2o l n;omega
theorem c3r:∀(w:List UInt8) (ws:List (List UInt8)),(lnT (w::ws)).length=wl (w::ws)
 |w,[]=>by simp[lnT,Lib.join_one,wl]
 |w,v::ws=>by
  have ih:=c3r v ws;have e:Lib.join (w::v::ws) [32]=w++32::Lib.join (v::ws) [32]:=by rw[Lib.join_cons,Lib.join_cons];simp[Lib.joinTail]
  rw[a38,←ih];simp only[lnT,e,e2f,b94,e27];omega
theorem c1k(ws:List (List UInt8)):(c77 ws).length≤wl ws:=by
 cases ws with
 |nil=>simp[c77]
 |cons w0 tl=>
  rw[b38];split
  ·simp
  ·split
   ·rw[c3r,a38,a38];have:=b2o tl 2;omega
   ·rw[c3r];exact e2c _
theorem c4y(s:List UInt8):(nrm s).length≤s.length+1:=by
 rw[←a8a 10 s];unfold nrm;generalize a00 10 s=L
 induction L with
 |nil=>simp[wl]
 |cons u L ih=>rw[e71,e2f,a38];have h1:=c1k (a2i (a00 32 u));have h2:=c9f (a00 32 u);rw[a8a]at h2;omega
theorem d2j{α:Type}(f:α→List UInt8)(k:Nat):∀(l:List α),(∀x∈l,k≤(f x).length)→k*l.length≤(l.flatMap f).length
 | [],_=>by simp
 |a::l,h=>by have h1:=d2j f k l λx hx=>h x (by simp[hx]);have h2:=h a (by simp);rw[e71,e2f,b94,Nat.mul_succ];omega
theorem d14{r:Rd}(h:RdOk r):11*r.S.length+11*r.V.length≤(b4l r.S r.T r.V).length:=by
 have nb:∀n,a3s n=true→1≤n.length:=λn hn=>by have:=(a9w hn).1;exact e72.2 this
 have hS:=d2j (λs=>lnT (a6n s)) 11 r.S λs hs=>by
  have hk:=h.sg s hs;simp only[a9n,b46]at hk;have:=nb _ hk.1;unfold a6n;rw[c3r];simp only[a38];have hd:2≤(if s.dir=1 then a9h else inK).length:=by split<;>decide
  have e:sigK0.length=6:=rfl;rw[e];omega
 have hV:=d2j (λv=>lnT (a8z r.T v)) 11 r.V λv hv=>by
  have hk:=h.vc v hv;simp only[a22,b46,e2d]at hk;obtain⟨t,ht⟩:∃t,r.T[v.t.toNat]?=some t:=⟨_,z9e (by omega)⟩
  have jt:=h.tm t (e25 ht);simp only[a5l,b46,e2d]at jt;have:=nb _ jt.1;have hc:1≤(if v.cells=[]then[45]else v.cells).length:=by
   by_cases hc:v.cells=[]
   ·rw[e3g hc];simp
   ·rw[e2i hc];exact e72.2 hc
  rw[b2p _ _ _ ht];simp only[b82,b43];rw[c3r];simp only[a38];have e:vecK0.length=6:=rfl;rw[e];omega
 unfold b4l txS txT txV;rw[e2f,e2f];omega
theorem c2g{s:List UInt8}{r:Rd}(hl:s.length≤2000)(h:a2a ⟨[],[],[],0⟩ (a00 10 s)=some r):Valid r.S r.T r.V∧a2a ⟨[],[],[],0⟩ (a00 10 (nrm s))=some r:=by
 have hk:=c1h _ _ _ h e14;have hn:=b88 h;have hg:=d14 hk;have fm:=c4y s;rw[hn]at hg;have hv:Valid r.S r.T r.V:=⟨by omega,hk.hT,by omega,hk.sg,hk.tm,hk.vc,hk.sn,hk.tn,by have:=hk.sum;have:=hk.le;omega⟩
 refine⟨hv,?_⟩;rw[←hn,c6f hv,←hk.sum]
end Go.RInst
namespace Go.RInst
set_option maxHeartbeats 200000000
open Go.Proofs Go.Ax Go.Pc
variable [PR]
set_option maxRecDepth 100000
/-! ### the law's normal -/
def gvL(l:List (List UInt8)):AV:=match l with
 | []=>.nilslice
 |_=>.slice 2 0 l.length none
def ghL(l:List (List UInt8)):a08:=match l with
 | []=>[]
 |_=>[some (.row 1 (sR l))]
theorem b91{l:List (List UInt8)}(h:l≠[]):gvL l = .slice 2 0 l.length none:=by
 cases l with
 |nil=>exact absurd rfl h
 |cons=>rfl
theorem b93{l:List (List UInt8)}(h:l≠[]):ghL l=[some (.row 1 (sR l))]:=by
 cases l with
 |nil=>exact absurd rfl h
 |cons=>rfl
theorem c2v(eM:List UInt8)(o n:Nat)(c:Option Nat)(l:List (List UInt8))(ho:o+n≤l.length)(h0:0<n)(hs:n≤1000000)(hj:(Lib.join ((l.drop o).take n) eM).length≤1000000):sem L.env Mf 24 [.slice 0 o n c,.str eM] [some (.row 1 (sR l))]=some (.str (Lib.join ((l.drop o).take n) eM),[some (.row 1 (sR l))]):=by
 refine a5r ?_;have hz:b8y [.slice 0 o n c,.str eM]=false:=by show Nat.beq n 0=false;rw[←e5q,e5a];omega
 rw[c0m,hz];show c0n [.slice 0 o n c,.str eM] [some (.row 1 (sR l))]=_;have b1:Nat.ble (o+n) (sR l).length=true:=by rw[e5e,a7c];exact ho
 have b0:((sR l).drop o).take n=a1r ((l.drop o).take n):=by unfold sR a1r;rw[←List.map_drop,←List.map_take]
 have b2:Nat.blt 0 n=true:=by rw[e3f];omega
 have b4:unS (a1r ((l.drop o).take n))=some ((l.drop o).take n):=b22 _;have b5:okJ ((l.drop o).take n) eM=true:=by unfold okJ b7g;rw[e6k (by rw[e4z];omega),e6k (by omega)];rfl
 simp only[c0n,b0,b1,b2,b4,b5];rfl
theorem c9e:∀(l:List (List UInt8)) (w:List UInt8),w∈l→w.length+1≤wl l
 |a::l,w,h=>by
  rw[a38];rcases e3b.1 h with rfl|h
  ·omega
  ·have:=c9e l w h;omega
def c4z(u:List UInt8):List UInt8:=c77 (a2i (a00 32 u))
theorem c5u:∀Z:List (List UInt8),(Z.flatMap c4z).length≤wl Z
 | []=>by simp[wl]
 |u::Z=>by rw[e71,e2f,a38];have ih:=c5u Z;have h1:(c4z u).length≤_:=c1k (a2i (a00 32 u));have h2:=c9f (a00 32 u);rw[a8a]at h2;omega
theorem c50(s:List UInt8)(hl:s.length≤2000):sem L.env Mf 22 [.str s] []=some (.str (nrm s),[]):=by
 have cK:=λH=>a1f H s 10 (by omega);have fE:=a0r 10 s;have aX:s.count 10≤s.length:=e3k;have pK:=a8a 10 s;have p7:nrm s=(a00 10 s).flatMap c4z:=rfl;rw[p7];generalize a00 10 s=Z at *;obtain⟨n,hn⟩:∃n,n=Z.length:=⟨_,rfl⟩
 simp only[←hn]at cK;have gN:=a7c Z;have jQ:=λπ=>a02 π (a0m Z);have gX:=a01 (a0m Z);rw[←hn]at gN
 (refine sv Tryz.f22 ?_;simp only[Tryz.f22,gS])
 (repeat first|simp only[ww]|(apply xa;simp+decide only[go_sem,cK];rfl;kernel_rfl))
 refine a15 (σ:=Nat) kp22_0 (λi=>[(3,.str ((Z.take i).flatMap c4z)),(4,.slice 0 0 n (some n)),(5,.int .i64 (i:Nat))]) (λ_=>[some (.row 1 (sR Z))]) (λi=>n-i) (λi=>i≤n) 0 ?_ (e3h _) ?_
 ·(simp+decide only[go_sem,a0d,a07,jQ,gX]<;>rfl)
 ·intro i hi;by_cases aq:i<n
  ·have l1:(i:Int)<n:=by omega
   obtain⟨u,hu⟩:∃u,Z[i]?=some u:=⟨_,z9e (by omega)⟩
   have hg:=a8t hu;have uB:u.length≤2000:=by have:=c9e Z u (e25 hu);omega
   have iN:=λH=>a1f H u 32 (by omega);obtain⟨W,hW⟩:∃W,W=a00 32 u:=⟨_,rfl⟩
   obtain⟨m,hm⟩:∃m,m=W.length:=⟨_,rfl⟩
   have jj:m≤2001:=by have:u.count 32≤u.length:=e3k;rw[hm,hW,a0r];omega
   have dE:=a7c W;have oF:=λπ=>a02 π (a0m W);have oG:=a01 (a0m W);simp only[←hW,←hm]at iN dE
   (repeat first|simp only[ww]|(apply xa;simp+decide only[go_sem,l1,aq,hg,iN];rfl;kernel_rfl))
   refine a15 (σ:=Nat) kp22_2 (λj=>[(3,.str ((Z.take i).flatMap c4z)),(4,.slice 0 0 n (some n)),(5,.int .i64 (i:Nat)),(6,.slice 1 0 m (some m)),(7,gvL (a2i (W.take j))),(8,.int .i64 (j:Nat))]) (λj=>some (.row 1 (sR Z))::some (.row 1 (sR W))::ghL (a2i (W.take j))) (λj=>m-j) (λj=>j≤m) 0 ?_ (e3h _) ?_
   ·(simp+decide only[go_sem,a0d,a07,jQ,gX,oF,oG]<;>rfl)
   ·intro j hj;by_cases ng:j<m
    ·have j1:(j:Int)<m:=by omega
     obtain⟨w,hw⟩:∃w,W[j]?=some w:=⟨_,z9e (by omega)⟩
     have o6:=a8t hw;have mo:IntKind.i64.wrap ((j:Int)+1)=((j+1:Nat):Int):=by rw[w64 (by omega) (by omega)];omega
     have jh:a2i (W.take (j+1))=a2i (W.take j)++(if w=[]then[]else[w]):=by rw[e70,hw,b2i];by_cases dL:w=[]<;>simp[a2i,dL]
     by_cases dL:w=[]
     ·rw[e3g dL,e2h]at jh;generalize a2i (W.take j)=l at *;have nc:=λπ=>a02 π (a0m l);have qe:=a01 (a0m l);by_cases aN:l=[]
      ·subst aN;simp only[gvL,ghL]
       (repeat first|simp only[ww]|(apply xa;simp+decide only[go_sem,j1,ng,o6,dL,mo];rfl;kernel_rfl))
       refine a2p (j+1) ?_ (by omega) (by omega);rw[jh];simp only[gvL,ghL]
       (simp+decide only[go_sem,a0d,a07,jQ,gX,oF,oG]<;>rfl)
      ·rw[b91 aN,b93 aN]
       (repeat first|simp only[ww]|(apply xa;simp+decide only[go_sem,j1,ng,o6,dL,mo];rfl;kernel_rfl))
       refine a2p (j+1) ?_ (by omega) (by omega);rw[jh,b91 aN,b93 aN]
       (simp+decide only[go_sem,a0d,a07,jQ,gX,oF,oG,nc,qe]<;>rfl)
     ·rw[e2i dL]at jh;have nj:(a2i (W.take j)).length≤m:=by
       have h1:=a21 (W.take j);rw[e4z]at h1;omega
      generalize a2i (W.take j)=l at *;have nc:=λπ=>a02 π (a0m l);have qe:=a01 (a0m l);have gw:=a7c l;have aY:l++[w]≠[]:=by simp
      have kd:=λπ=>a02 π (a0m (l++[w]));have oW:=a01 (a0m (l++[w]));by_cases aN:l=[]
      ·subst aN;rw[b43]at jh;simp only[gvL,ghL]
       (repeat first|simp only[ww]|(apply xa;simp+decide only[go_sem,j1,ng,o6,dL,mo];rfl;kernel_rfl))
       refine a2p (j+1) ?_ (by omega) (by omega);have cF:sR [w]=[[AV.str w]]:=rfl;rw[jh];simp only[gvL,ghL,cF]
       (simp+decide only[go_sem,a0d,a07,jQ,gX,oF,oG]<;>rfl)
      ·rw[b91 aN,b93 aN];have pc:sR l++[[AV.str w]]=sR (l++[w]):=by simp[sR]
       have qH:L.env.bytes 9=16:=by kernel_rfl
       have cU:a2j L.env 9 (l.length+1)=true:=a91 (by omega) (by rw[qH];omega)
       (repeat first|simp only[ww]|(apply xa;simp+decide only[go_sem,j1,ng,o6,dL,mo,gw,pc,cU];rfl;kernel_rfl))
       refine a2p (j+1) ?_ (by omega) (by omega);rw[jh,b91 aY,b93 aY]
       (simp+decide only[go_sem,a0d,a07,jQ,gX,oF,oG,kd,oW]<;>rfl)
    ·obtain rfl:j=m:=by omega
     have j1:¬(j:Int)<j:=by omega
     have cZ:IntKind.i64.wrap ((i:Int)+1)=((i+1:Nat):Int):=by rw[w64 (by omega) (by omega)];omega
     have bh:=d9j c4z Z hu;have hU:c4z u=c77 (a2i W):=by rw[hW];rfl
     rw[hU]at bh;rw[e3c (by omega:W.length≤j)];have nj:(a2i W).length≤j:=by have h1:=a21 W;omega
     have oX:∀w∈a2i W,w≠[]:=λw hw=>by have:=(List.mem_filter.1 hw).2;simpa using this
     generalize a2i W=l at *;have nc:=λπ=>a02 π (a0m l);have qe:=a01 (a0m l);have gw:=a7c l;cases l with
     |nil=>
      have e0:c77 []=[]:=rfl;rw[e0,e2h]at bh;simp only[gvL,ghL]
      (repeat first|simp only[ww]|(apply xa;simp+decide only[go_sem,j1,cZ];rfl;kernel_rfl))
      refine a2p (i+1) ?_ (by omega) (by omega);rw[bh]
      (simp+decide only[go_sem,a0d,a07,jQ,gX]<;>rfl)
     |cons w0 tl=>
      rw[b91 (by simp),b93 (by simp)];obtain⟨b,r,rfl⟩:∃b r,w0=b::r:=by
       cases w0 with
       |nil=>exact absurd rfl (oX [] (by simp))
       |cons b r=>exact⟨b,r,rfl⟩
      rw[b38]at bh;have ol:(sR ((b::r)::tl))[0]?=some [.str (b::r)]:=rfl;have rD:¬(((b::r)::tl).length:Int)=0:=by simp;omega
      have fx:0<((b::r)::tl).length:=by simp
      by_cases jp:b=35
      ·rw[e3g (by rw[jp];rfl),e2h]at bh;generalize hQ:sR ((b::r)::tl)=Q at *;generalize hk:((b::r)::tl).length=k at *;have qU:(b.toNat:Int)=35:=by rw[jp];rfl
       (repeat first|simp only[ww]|(apply xa;simp+decide only[go_sem,j1,cZ,rD,fx,gw,ol,qU,e29,e7d];rfl;kernel_rfl))
       refine a2p (i+1) ?_ (by omega) (by omega);rw[bh]
       (simp+decide only[go_sem,a0d,a07,jQ,gX]<;>rfl)
      ·rw[e2i (show ¬(b::r).head?=some 35 by simpa using jp)]at bh;have oA:((b.toNat:Int)==35)=false:=by
        rw[e3o];intro e;apply jp;apply UInt8.toNat_inj.1;have:(35:UInt8).toNat=35:=rfl;omega
       have kR:¬(b.toNat:Int)=35:=e3o.1 oA;have iq:=c5u (Z.take (i+1));have sI:=b2o Z (i+1);rw[bh,e2f]at iq;by_cases od:((b::r)::tl).length=4
       ·obtain⟨w1,w2,w3,rfl⟩:∃w1 w2 w3,tl=[w1,w2,w3]:=by
         match tl,od with
         | [w1,w2,w3],_=>exact⟨w1,w2,w3,rfl⟩
        have o9:(sR ((b::r)::[w1,w2,w3]))[3]?=some [.str w3]:=rfl;have lu:(lnT ((b::r)::[w1,w2,w3])).length=(Lib.join ((b::r)::[w1,w2,w3]) [32]).length+1:=by simp[lnT]
        by_cases hv:(b::r)=vecK0
        ·by_cases h1:w3=[49]
         ·rw[e3g ⟨rfl,hv,by simp[h1]⟩]at bh iq;have re:(((b::r)::[w1,w2,w3]).drop 0).take 3=(b::r)::[w1,w2]:=rfl;have e2:(b::r)::[w1,w2,w3].take 2=(b::r)::[w1,w2]:=rfl;rw[e2]at bh iq;have qd:(lnT ((b::r)::[w1,w2])).length=(Lib.join ((b::r)::[w1,w2]) [32]).length+1:=by simp[lnT]
          have km:=c2v [32] 0 3 none ((b::r)::[w1,w2,w3]) (by simp) (by omega) (by omega) (by rw[re];omega);rw[re]at km;have hJ:a0e RInst.L.env false (sem L.env Mf) (.func (.func 24) [] []) [.slice 2 0 3 none,.str [32]] [some (.row 1 (sR Z)),some (.row 1 (sR W)),some (.row 1 (sR ((b::r)::[w1,w2,w3])))]=some (.str (Lib.join ((b::r)::[w1,w2]) [32]),[some (.row 1 (sR Z)),some (.row 1 (sR W)),some (.row 1 (sR ((b::r)::[w1,w2,w3])))],[2]):=a2f (by kernel_rfl) (by kernel_rfl) rfl (b:=2) (o:=.row 1 (sR ((b::r)::[w1,w2,w3]))) rfl (a0o (a0m _)) (FlatO.row (a0m _)) rfl (by rfl) km rfl;have iX:lnT ((b::r)::[w1,w2])=Lib.join ((b::r)::[w1,w2]) [32]++[10]:=rfl;rw[iX]at bh;rw[qd]at iq;generalize Lib.join ((b::r)::[w1,w2]) [32]=JT at *;generalize hQ:sR ((b::r)::[w1,w2,w3])=Q at *;generalize hk:((b::r)::[w1,w2,w3]).length=k at *;subst od;have du:JT.length+1≤4611686018427387904:=by omega
          have d7:((Z.take i).flatMap c4z).length+(JT.length+1)≤4611686018427387904:=by omega
          have ld:(b::r)[0]?=some b:=rfl;have iG:0<(b::r).length:=by simp
          have oK:(0:Nat)<4:=by decide
          have ph:(3:Nat)<4:=by decide
          generalize b::r=w0 at *;have jW:(w0=[118,101,99,116,111,114])=True:=eq_true hv
          (repeat first|simp only[ww]|(apply xa;simp+decide only[go_sem,j1,cZ,gw,ol,oA,kR,ld,iG,hJ,du,d7,jW,h1,o9,oK,ph];rfl;kernel_rfl))
          refine a2p (i+1) ?_ (by omega) (by omega);rw[bh]
          (simp+decide only[go_sem,a0d,a07,jQ,gX]<;>rfl)
         ·rw[e2i (by intro e;apply h1;simpa using e.2.2)]at bh iq;have km:=c2v [32] 0 ((b::r)::[w1,w2,w3]).length none ((b::r)::[w1,w2,w3]) (by omega) fx (by omega) (by rw[e5b,e3z];omega);rw[e5b,e3z]at km;have hJ:a0e RInst.L.env false (sem L.env Mf) (.func (.func 24) [] []) [.slice 2 0 ((b::r)::[w1,w2,w3]).length none,.str [32]] [some (.row 1 (sR Z)),some (.row 1 (sR W)),some (.row 1 (sR ((b::r)::[w1,w2,w3])))]=some (.str (Lib.join ((b::r)::[w1,w2,w3]) [32]),[some (.row 1 (sR Z)),some (.row 1 (sR W)),some (.row 1 (sR ((b::r)::[w1,w2,w3])))],[2]):=
           a2f (by kernel_rfl) (by kernel_rfl) rfl (b:=2) (o:=.row 1 (sR ((b::r)::[w1,w2,w3]))) rfl (a0o (a0m _)) (FlatO.row (a0m _)) rfl (by rfl) km rfl
          have iX:lnT ((b::r)::[w1,w2,w3])=Lib.join ((b::r)::[w1,w2,w3]) [32]++[10]:=rfl;rw[iX]at bh;rw[lu]at iq;generalize Lib.join ((b::r)::[w1,w2,w3]) [32]=JT at *;generalize hQ:sR ((b::r)::[w1,w2,w3])=Q at *;generalize hk:((b::r)::[w1,w2,w3]).length=k at *;subst od;have du:JT.length+1≤4611686018427387904:=by omega
          have d7:((Z.take i).flatMap c4z).length+(JT.length+1)≤4611686018427387904:=by omega
          have ld:(b::r)[0]?=some b:=rfl;have iG:0<(b::r).length:=by simp
          have oK:(0:Nat)<4:=by decide
          have ph:(3:Nat)<4:=by decide
          generalize b::r=w0 at *;have jW:(w0=[118,101,99,116,111,114])=True:=eq_true hv
          (repeat first|simp only[ww]|(apply xa;simp+decide only[go_sem,j1,cZ,gw,ol,oA,kR,ld,iG,hJ,du,d7,jW,h1,o9,oK,ph];rfl;kernel_rfl))
          refine a2p (i+1) ?_ (by omega) (by omega);rw[bh]
          (simp+decide only[go_sem,a0d,a07,jQ,gX]<;>rfl)
        ·rw[e2i (by intro e;exact hv e.2.1)]at bh iq;have km:=c2v [32] 0 ((b::r)::[w1,w2,w3]).length none ((b::r)::[w1,w2,w3]) (by omega) fx (by omega) (by rw[e5b,e3z];omega);rw[e5b,e3z]at km;have hJ:a0e RInst.L.env false (sem L.env Mf) (.func (.func 24) [] []) [.slice 2 0 ((b::r)::[w1,w2,w3]).length none,.str [32]] [some (.row 1 (sR Z)),some (.row 1 (sR W)),some (.row 1 (sR ((b::r)::[w1,w2,w3])))]=some (.str (Lib.join ((b::r)::[w1,w2,w3]) [32]),[some (.row 1 (sR Z)),some (.row 1 (sR W)),some (.row 1 (sR ((b::r)::[w1,w2,w3])))],[2]):=
          a2f (by kernel_rfl) (by kernel_rfl) rfl (b:=2) (o:=.row 1 (sR ((b::r)::[w1,w2,w3]))) rfl (a0o (a0m _)) (FlatO.row (a0m _)) rfl (by rfl) km rfl
         have iX:lnT ((b::r)::[w1,w2,w3])=Lib.join ((b::r)::[w1,w2,w3]) [32]++[10]:=rfl;rw[iX]at bh;rw[lu]at iq;generalize Lib.join ((b::r)::[w1,w2,w3]) [32]=JT at *;generalize hQ:sR ((b::r)::[w1,w2,w3])=Q at *;generalize hk:((b::r)::[w1,w2,w3]).length=k at *;subst od;have du:JT.length+1≤4611686018427387904:=by omega
         have d7:((Z.take i).flatMap c4z).length+(JT.length+1)≤4611686018427387904:=by omega
         have ld:(b::r)[0]?=some b:=rfl;have iG:0<(b::r).length:=by simp
         have oK:(0:Nat)<4:=by decide
         have ph:(3:Nat)<4:=by decide
         generalize b::r=w0 at *;have jW:¬w0=[118,101,99,116,111,114]:=hv
         (repeat first|simp only[ww]|(apply xa;simp+decide only[go_sem,j1,cZ,gw,ol,oA,kR,ld,iG,hJ,du,d7,jW,oK];rfl;kernel_rfl))
         refine a2p (i+1) ?_ (by omega) (by omega);rw[bh]
         (simp+decide only[go_sem,a0d,a07,jQ,gX]<;>rfl)
       ·rw[e2i (by intro e;apply od;simp[e.1])]at bh iq;have lu:(lnT ((b::r)::tl)).length=(Lib.join ((b::r)::tl) [32]).length+1:=by simp[lnT]
        have km:=c2v [32] 0 ((b::r)::tl).length none ((b::r)::tl) (by omega) fx (by omega) (by rw[e5b,e3z];omega);rw[e5b,e3z]at km;have hJ:a0e RInst.L.env false (sem L.env Mf) (.func (.func 24) [] []) [.slice 2 0 ((b::r)::tl).length none,.str [32]] [some (.row 1 (sR Z)),some (.row 1 (sR W)),some (.row 1 (sR ((b::r)::tl)))]=some (.str (Lib.join ((b::r)::tl) [32]),[some (.row 1 (sR Z)),some (.row 1 (sR W)),some (.row 1 (sR ((b::r)::tl)))],[2]):=a2f (by kernel_rfl) (by kernel_rfl) rfl (b:=2) (o:=.row 1 (sR ((b::r)::tl))) rfl (a0o (a0m _)) (FlatO.row (a0m _)) rfl (by rfl) km rfl;have qj:¬(((b::r)::tl).length:Int)=4:=by omega
        have iX:lnT ((b::r)::tl)=Lib.join ((b::r)::tl) [32]++[10]:=rfl;rw[iX]at bh;rw[lu]at iq;generalize Lib.join ((b::r)::tl) [32]=JT at *;generalize hQ:sR ((b::r)::tl)=Q at *;generalize hk:((b::r)::tl).length=k at *;have du:JT.length+1≤4611686018427387904:=by omega
        have d7:((Z.take i).flatMap c4z).length+(JT.length+1)≤4611686018427387904:=by omega
        (repeat first|simp only[ww]|(apply xa;simp+decide only[go_sem,j1,cZ,rD,fx,gw,ol,oA,e29,qj,hJ,du,d7];rfl;kernel_rfl))
        refine a2p (i+1) ?_ (by omega) (by omega);rw[bh]
        (simp+decide only[go_sem,a0d,a07,jQ,gX]<;>rfl)
  ·obtain rfl:i=n:=by omega
   have l1:¬(i:Int)<i:=by omega
   have ht:Z.take i=Z:=e3c (by omega)
   (repeat first|simp only[ww]|(apply xa;simp+decide only[go_sem,l1,ht];rfl;kernel_rfl))
   (apply fqb;simp+decide only[go_sem]<;>rfl)
end Go.RInst
