/- Part of a proof. No condition. -/
import Derived.Test.YtmiegcjnimlbmaaGreatDoorUTa
set_option linter.unusedSimpArgs false
set_option linter.unusedVariables false
namespace Go.UInst
open Go.Proofs Go.Ax Go.Pc
set_option maxRecDepth 100000
def gN(c:Cir)(ord x st:List Nat):List Nat:=d7t e1n c.nodes hk0 ord (kinds c.nodes 0) (kinds c.nodes 14) x st
section
variable (c:Cir)(ord:List Nat)(A:List (Rep×List Nat))
end
set_option maxHeartbeats 200000000
theorem c1g(s:Sgn)(h:b4r s.nm)(hd:s.dir≤1):sem L.env Mf 47 [.agg s.row] []=some (.bool true,[]):=by
 have hn:=λ(d:Bool) (H:a03)=>b2a (d:=d) h H;have c1:(s.dir:Int)≤1:=by omega
 simp only[Sgn.row]
 (refine sv Tryz.f47 ?_;simp only[Tryz.f47,gS])
 (repeat first|simp only[ww]|(apply xa;simp+decide only[go_sem,hn,c1];rfl;kernel_rfl))
 (apply fqb;simp+decide only[go_sem]<;>rfl)
theorem b6p{d:Bool}(H:a03)(s:Sgn)(h:b4r s.nm)(hd:s.dir≤1):a0m L.env d (sem L.env Mf) (.func (.func 47) [] []) [.agg s.row] H=some (.bool true,H,[]):=a06 (by kernel_rfl) (by kernel_rfl) rfl rfl (c1g s h hd) rfl
theorem b6n{d:Bool}(H:a03):a0m L.env d (sem L.env Mf) (.func (.func 48) [] []) [.agg tmR] H=some (.bool true,H,[]):=a06 (by kernel_rfl) (by kernel_rfl) rfl rfl (a0g (E:=L.env) a0f 60 (by kernel_rfl)) rfl
def c40(dir:Nat)(b:UInt8):Prop:=(dir=0∧(b=48∨b=49∨b=88))∨(dir=1∧(b=76∨b=72∨b=88))
theorem d81{b:UInt8}(h:b=48∨b=49∨b=88):∃n:Nat,sem L.env Mf 95 [.str [48,49,88,80],.int .u8 b.toNat] []=some (.int .i64 n,[]):=by
 rcases h with rfl|rfl|rfl
 ·exact⟨0,a0g (E:=L.env) a0f 60 (by kernel_rfl)⟩
 ·exact⟨1,a0g (E:=L.env) a0f 60 (by kernel_rfl)⟩
 ·exact⟨2,a0g (E:=L.env) a0f 60 (by kernel_rfl)⟩
theorem d3p{b:UInt8}(h:b=76∨b=72∨b=88):∃n:Nat,sem L.env Mf 95 [.str [76,72,88],.int .u8 b.toNat] []=some (.int .i64 n,[]):=by
 rcases h with rfl|rfl|rfl
 ·exact⟨0,a0g (E:=L.env) a0f 60 (by kernel_rfl)⟩
 ·exact⟨1,a0g (E:=L.env) a0f 60 (by kernel_rfl)⟩
 ·exact⟨2,a0g (E:=L.env) a0f 60 (by kernel_rfl)⟩
structure VecOk(sg:List Sgn)(s:List UInt8):Prop where
 len:s.length=sg.length
 cell:∀(i:Nat) (g:Sgn) (b:UInt8),sg[i]?=some g→s[i]?=some b→c40 g.dir b
theorem c1b(sg:List Sgn)(vs:List (List UInt8))(s:List UInt8)(hs:VecOk sg s)(hl:sg.length≤1000):sem L.env Mf 49 [.agg (vcR s),.agg (b6g sg vs)] []=some (.bool true,[]):=by
 obtain⟨T,hT⟩:∃T,b6j vs=T:=⟨_,rfl⟩
 have hTr:refs T=[]:=by rw[←hT];exact a85 _
 have hTs:T.storable=true:=by rw[←hT];cases vs<;>rfl
 have hpr:b6g sg vs=[.islice (sg.map Sgn.row) (some sg.length),.islice [tmR] (some 1),T]:=by unfold b6g;rw[hT]
 rw[hpr];have hsl:=hs.len;simp only[vcR]
 (refine sv Tryz.f49 ?_;simp only[Tryz.f49,gS])
 (repeat first|simp only[ww]|(apply xa;simp+decide only[go_sem,hTs,hsl,List.length_map];rfl;kernel_rfl))
 refine a0n (σ:=Nat) kp49_0 (λi=>[(2,.ptr 0 0 0),(39,.islice (sg.map Sgn.row) (some sg.length)),(40,.int .i64 sg.length),(41,.int .i64 i)])
  (λi=>[some (.row 3 [[.int .i64 0,.str s,.int .i64 1]])]) (λi=>sg.length-i) (λi=>i≤sg.length) 0 ?_ (Nat.zero_le _) ?_
 ·(simp+decide only[go_sem,a02,a00,List.length_map]<;>rfl)<;>rfl
 ·intro i hi;by_cases hlt:i<sg.length
  ·obtain⟨g,hg⟩:∃g,sg[i]?=some g:=⟨_,z9e hlt⟩
   obtain⟨b,hb⟩:∃b,s[i]?=some b:=⟨_,z9e (by omega)⟩
   have d1:(i:Int)<sg.length:=by omega
   have hwi:=wI1 (n:=i) (by omega);have hgr:g.row=[.str g.nm,.int .u8 g.dir]:=rfl;rcases hs.cell i g b hg hb with ⟨hd,hc⟩|⟨hd,hc⟩
   ·obtain⟨n,hn⟩:=d81 hc;have hib:=λ(d:Bool) (H:a03)=>a06 (E:=L.env) (draw:=d) (call:=sem L.env Mf) (g:=95) (fs:=[]) (cs:=[]) (ar:=[.str [48,49,88,80],.int .u8 b.toNat]) (H:=H) (by kernel_rfl) (by kernel_rfl) rfl rfl hn rfl;have e1:¬(g.dir:Int)=1:=by omega
    have e2:¬(n:Int)<0:=by omega
    (repeat first|simp only[ww]|(apply xa;simp+decide only[go_sem,d1,hlt,hg,hgr,hb,hib,e1,e2,hwi,hsl,List.length_map];rfl;kernel_rfl))
    refine a1p (i+1) ?_ (by omega) (by omega)
    (simp+decide only[go_sem,a02,a00]<;>rfl)<;>rfl
   ·obtain⟨n,hn⟩:=d3p hc;have hib:=λ(d:Bool) (H:a03)=>a06 (E:=L.env) (draw:=d) (call:=sem L.env Mf) (g:=95) (fs:=[]) (cs:=[]) (ar:=[.str [76,72,88],.int .u8 b.toNat]) (H:=H) (by kernel_rfl) (by kernel_rfl) rfl rfl hn rfl;have e1:(g.dir:Int)=1:=by omega
    have e2:¬(n:Int)<0:=by omega
    (repeat first|simp only[ww]|(apply xa;simp+decide only[go_sem,d1,hlt,hg,hgr,hb,hib,e1,e2,hwi,hsl,List.length_map];rfl;kernel_rfl))
    refine a1p (i+1) ?_ (by omega) (by omega)
    (simp+decide only[go_sem,a02,a00]<;>rfl)<;>rfl
  ·obtain rfl:i=sg.length:=by omega
   have d1:¬(sg.length:Int)<sg.length:=by omega
   (repeat first|simp only[ww]|(apply xa;simp+decide only[go_sem,d1];rfl;kernel_rfl))
   (apply fqb;simp+decide only[go_sem]<;>rfl)
theorem b6i{d:Bool}(H:a03)(sg:List Sgn)(vs:List (List UInt8))(s:List UInt8)(hs:VecOk sg s)(hl:sg.length≤1000):a0m L.env d (sem L.env Mf) (.func (.func 49) [] []) [.agg (vcR s),.agg (b6g sg vs)] H=some (.bool true,H,[]):=a06 (by kernel_rfl) (by kernel_rfl) rfl (by simp only[List.nil_append,List.append_nil,a0h,a1o,b5c,a26];rfl) (c1b sg vs s hs hl) rfl
/- names that differ -/
def a86(l:List (List UInt8)):List (List AV):=l.map λs=>[.str s]
theorem c8h:sem L.env Mf 50 [.islice (a86 [[116]]) none] []=some (.bool false,[]):=a0g (E:=L.env) a0f 60 (by kernel_rfl)
set_option maxRecDepth 1000000 in
theorem c4b(k m:Nat)(k1:1≤k)(k4:k≤4)(m1:1≤m)(m4:m≤4):sem L.env Mf 50 [.islice (a86 (nms k m)) none] []=some (.bool false,[]):=by
 have hk:k=1∨k=2∨k=3∨k=4:=by omega
 have hm:m=1∨m=2∨m=3∨m=4:=by omega
 rcases hk with rfl|rfl|rfl|rfl<;>rcases hm with rfl|rfl|rfl|rfl<;>exact a0g (E:=L.env) a0f 60 (by kernel_rfl)
theorem b49(l:List (List UInt8)):FlatR (a86 l):=FlatR.map λ_=>rfl
theorem b21{d:Bool}{H:a03}{b n:Nat}{l:List (List UInt8)}(hn:n=l.length)(hb:a01 H b=some (.row 1 (a86 l)))(h:sem L.env Mf 50 [.islice (a86 l) none] []=some (.bool false,[])) :
 a0m L.env d (sem L.env Mf) (.func (.func 50) [] []) [.slice b 0 n none] H=some (.bool false,H,List.range H.length):=by
 subst hn;refine a47 (args:=[.slice b 0 l.length none]) (args':=[.islice (a86 l) none]) (by kernel_rfl) (by kernel_rfl) rfl ?_ (v:=.bool false) (H1:=[]) h rfl rfl;have h2:=a0s (m:=0) (d:=a2i (a01 H) 0 11) (b49 l);have h4:((a86 l).drop 0).take l.length=a86 l:=by rw[List.drop_zero];exact List.take_of_length_le (by simp[a86])
 have h5:(a86 l).length=l.length:=by simp[a86]
 have hb0:decide (b<0)=false:=decide_eq_false (Nat.not_lt_zero b);simp+decide only[a14,b47,a56,hb0,a45,hb,a5y,a07,h4,h2,h5,Nat.zero_add,Nat.le_refl,decide_true,decide_false,cond_true,cond_false]
theorem c6d(k m:Nat)(k1:1≤k)(k4:k≤4)(m1:1≤m)(m4:m≤4)(vs:List (List UInt8))(hvl:vs.length≤1000)(hvo:∀s∈vs,VecOk (sgs k m) s):sem L.env Mf 18 [.agg (b6g (sgs k m) vs)] []=some (.int .i64 0,[]):=by
 obtain⟨T,hT⟩:∃T,b6j vs=T:=⟨_,rfl⟩
 have hTr:refs T=[]:=by rw[←hT];exact a85 _
 have hTs:T.storable=true:=by rw[←hT];cases vs<;>rfl
 have hTn:∀π,ren π T=T:=λπ=>a3k π _ hTr;have hTsl:∃r,T=sl r (vs.map vcR):=by
  rw[←hT];cases vs with
  |nil=>exact⟨none,rfl⟩
  |cons v r=>exact⟨some (some (r.length+1)),rfl⟩
 obtain⟨tr,hTe⟩:=hTsl;have hsl:=a3b k m;have hgd:=b86 k4 m4;have htw:=c4b k m k1 k4 m1 m4;have hdir:∀s∈sgs k m,s.dir≤1:=by intro s hs;unfold sgs at hs;rcases List.mem_append.1 hs with h|h<;>(obtain⟨i,_,rfl⟩:=List.mem_map.1 h;simp[sgI,sgO])
 have hpr:b6g (sgs k m) vs=[.islice ((sgs k m).map Sgn.row) (some (sgs k m).length),.islice [tmR] (some 1),T]:=by unfold b6g;rw[hT]
 have hvv:=λ(d:Bool) (H:a03) (s:List UInt8) (hs:s∈vs)=>b6i (d:=d) H (sgs k m) vs s (hvo s hs) (by omega);have hsv:=λ(d:Bool) (H:a03) (s:Sgn) (hs:s∈sgs k m)=>b6p (d:=d) H s (hgd s hs) (hdir s hs);have htv:=λ(d:Bool) (H:a03)=>b6n (d:=d) H;have hnm:∀i g,(sgs k m)[i]?=some g→(nms k m).take (i+1)=(nms k m).take i++[g.nm]:=λi g h=>a1x (by unfold nms;rw[List.getElem?_map,h];rfl);have hnl:(nms k m).length=k+m:=by unfold nms;rw[List.length_map,hsl]
 rw[hpr]at hvv⊢;generalize nms k m=NM at htw hnm hnl;generalize sgs k m=G at hsl hsv hnm hpr hvv;have hgl:(G.map Sgn.row).length=k+m:=by rw[List.length_map,hsl]
 have hPf:∀π:Nat→Option Nat,a0j π (.row 3 [[.islice (G.map Sgn.row) (some G.length),.islice [tmR] (some 1),T]]) = .row 3 [[.islice (G.map Sgn.row) (some G.length),.islice [tmR] (some 1),T]]:=λπ=>by simp+decide only[go_sem,hTn]
 rw[hsl];rw[hsl]at hvv hPf;have c1:¬(256:Int)<(k+m:Nat):=by omega
 have c2:¬(65536:Int)<vs.length:=by omega
 have htl:∀(h:FHeap),True:=λ_=>trivial;subst hTe;simp only[tmR]at htv⊢
 (refine sv Tryz.f18 ?_;simp only[Tryz.f18,gS])
 (repeat first|simp only[ww]|(apply xa;simp+decide only[go_sem,c1,c2,hgl,hTs,List.length_map];rfl;kernel_rfl))
 refine a0n (σ:=Nat) kp18_0 (λi=>[(1,.ptr 0 0 0),(3,grV 1 (a86 (NM.take i))),(4,.nilslice),(29,.islice (G.map Sgn.row) (some (k+m))),(30,.int .i64 (k+m:Nat)),(31,.int .i64 i)])
  (λi=>some (.row 3 [[.islice (G.map Sgn.row) (some (k+m)),.islice [[.str [116],.int .i64 100,.int .i64 0,.int .i64 30,.int .i64 60,.int .i64 90]] (some 1),sl tr (vs.map vcR)]])::grH 1 (a86 (NM.take i))) (λi=>k+m-i) (λi=>i≤k+m) 0 ?_ (Nat.zero_le _) ?_
 ·rw[List.take_zero]
  (simp+decide only[go_sem,a02,a00,a86,List.map_nil,a0x,a0y,hgl,List.length_map]<;>rfl)<;>rfl
 ·intro i hi;by_cases hlt:i<k+m
  ·obtain⟨g,hg⟩:∃g,G[i]?=some g:=⟨_,z9e (by omega)⟩
   have d1:(i:Int)<(k+m:Nat):=by omega
   have hwi:=wI1 (n:=i) (by omega);have hgr:g.row=[.str g.nm,.int .u8 g.dir]:=rfl;have hs1:=λ(d:Bool) (H:a03)=>hsv d H g (List.mem_of_getElem? hg);rw[hgr]at hs1;have hgi:i<G.length:=by omega
   have hns:=hnm i g hg;have hnil:(NM.take i).length=i:=by rw[List.length_take];omega
   cases hw0:NM.take i with
   |nil=>
    (repeat first|simp only[ww]|(apply xa;simp+decide only[go_sem,d1,hlt,hgi,hg,hgr,hs1,hwi,hgl,a86,List.map_nil,a0x,a0y,List.length_map];rfl;kernel_rfl))
    refine a1p (i+1) ?_ (by omega) (by omega);rw[hns,hw0]
    (simp+decide only[go_sem,a02,a00,a86,List.nil_append,List.map_cons,List.map_nil,a0b,a0c,List.length_nil,hgl,List.length_map]<;>rfl)<;>rfl
   |cons v r=>
    rw[hw0]at hnil;have hrm:r.length+1+1≤1000000000:=by simp only[List.length_cons]at hnil;omega
    have hf2:=b49 r;have h3:=a0d hf2;have h4:=λπ=>a08 π hf2;unfold a86 at h3 h4
    (repeat first|simp only[ww]|(apply xa;simp+decide only[go_sem,d1,hlt,hgi,hg,hgr,hs1,hwi,hgl,a86,List.map_cons,a0b,a0c,hrm,List.length_map];rfl;kernel_rfl))
    refine a1p (i+1) ?_ (by omega) (by omega);rw[hns,hw0]
    (simp+decide only[go_sem,a02,a00,a86,List.cons_append,List.map_cons,List.map_append,List.map_nil,a0b,a0c,List.length_append,List.length_cons,List.length_nil,List.length_map,h3,h4,List.append_nil,hgl]<;>rfl)<;>rfl
  ·obtain rfl:i=k+m:=by omega
   have d1:¬((k+m:Nat):Int)<(k+m:Nat):=by omega
   rw[List.take_of_length_le (by omega)];have hne:a86 NM≠[]:=by intro e;have:=congrArg List.length e;simp[a86]at this;rw[this]at hnl;simp at hnl;omega
   have hsn:(a86 NM).length=k+m:=by simp[a86,hnl]
   rw[a4s 1 hne,a4t 1 hne,hsn];have hfN:=b49 NM;have h1:=a0d hfN;have h2:=λπ=>a08 π hfN;have htw1:=λ(d:Bool) (X:Option AObj) (R:a03)=>b21 (d:=d) (H:=X::some (.row 1 (a86 NM))::R) (b:=1) hnl.symm rfl htw;have htw2:=λ(d:Bool) (X Y:Option AObj) (R:a03)=>b21 (d:=d) (H:=X::Y::some (.row 1 (a86 [[116]]))::R) (b:=2) (n:=1) rfl rfl c8h;simp only[a86,List.map_cons,List.map_nil]at htw2;generalize a86 NM=SN at h1 h2 htw1
   (repeat first|simp only[ww]|(apply xa;simp+decide only[go_sem,d1,hTs,List.length_map];rfl;kernel_rfl))
   refine a0n (σ:=Nat) kp18_2 (λi=>match i with|0=>[(1,.ptr 0 0 0),(3,.slice 1 0 (k+m) none),(4,.nilslice),(45,.islice [[.str [116],.int .i64 100,.int .i64 0,.int .i64 30,.int .i64 60,.int .i64 90]] (some 1)),(46,.int .i64 1),(47,.int .i64 0)]|_=>[(1,.ptr 0 0 0),(3,.slice 1 0 (k+m) none),(4,.slice 2 0 1 none),(45,.islice [[.str [116],.int .i64 100,.int .i64 0,.int .i64 30,.int .i64 60,.int .i64 90]] (some 1)),(46,.int .i64 1),(47,.int .i64 1)])
    (λi=>match i with|0=>[some (.row 3 [[.islice (G.map Sgn.row) (some (k+m)),.islice [[.str [116],.int .i64 100,.int .i64 0,.int .i64 30,.int .i64 60,.int .i64 90]] (some 1),sl tr (vs.map vcR)]]),some (.row 1 SN)]|_=>[some (.row 3 [[.islice (G.map Sgn.row) (some (k+m)),.islice [[.str [116],.int .i64 100,.int .i64 0,.int .i64 30,.int .i64 60,.int .i64 90]] (some 1),sl tr (vs.map vcR)]]),some (.row 1 SN),some (.row 1 [[.str [116]]])]) (λi=>1-i) (λi=>i≤1) 0 ?_ (Nat.zero_le _) ?_
   ·(simp+decide only[go_sem,a02,a00,h1,h2,List.length_map]<;>rfl)<;>rfl
   ·intro i hi
    match i,hi with
    |0,_=>
     (repeat first|simp only[ww]|(apply xa;simp+decide only[go_sem,htv,List.length_map];rfl;kernel_rfl))
     refine a1p 1 ?_ (by omega) (by omega)
     (simp+decide only[go_sem,a02,a00,h1,h2,List.length_map]<;>rfl)<;>rfl
    |1,_=>
     (repeat first|simp only[ww]|(apply xa;simp+decide only[go_sem,hTs,List.length_map];rfl;kernel_rfl))
     refine a0n (σ:=Nat) kp18_4 (λi=>[(1,.ptr 0 0 0),(3,.slice 1 0 (k+m) none),(4,.slice 2 0 1 none),(9,.int .i64 i),(61,sl tr (vs.map vcR)),(62,.int .i64 vs.length),(63,.int .i64 i)])
      (λi=>[some (.row 3 [[.islice (G.map Sgn.row) (some (k+m)),.islice [[.str [116],.int .i64 100,.int .i64 0,.int .i64 30,.int .i64 60,.int .i64 90]] (some 1),sl tr (vs.map vcR)]]),some (.row 1 SN),some (.row 1 [[.str [116]]])]) (λi=>vs.length-i) (λi=>i≤vs.length) 0 ?_ (Nat.zero_le _) ?_
     ·(simp+decide only[go_sem,a02,a00,h1,h2,List.length_map]<;>rfl)<;>rfl
     ·intro i hi;by_cases hlt:i<vs.length
      ·obtain⟨s,hs⟩:∃s,vs[i]?=some s:=⟨_,z9e hlt⟩
       have d1:(i:Int)<vs.length:=by omega
       have hwi:=wI1 (n:=i) (by omega);have hsr:vcR s=[.int .i64 0,.str s,.int .i64 1]:=rfl;have hv1:=λ(d:Bool) (H:a03)=>hvv d H s (List.mem_of_getElem? hs);simp only[hsr,tmR]at hv1;have hmn:¬(1000001:Int)<(i+1:Nat):=by omega
       (repeat first|simp only[ww]|(apply xa;simp+decide only[go_sem,d1,hlt,hs,hsr,hv1,hwi,hmn,if_false,hTs,List.length_map];rfl;kernel_rfl))
       refine a1p (i+1) ?_ (by omega) (by omega)
       (simp+decide only[go_sem,a02,a00,h1,h2,List.length_map]<;>rfl)<;>rfl
      ·obtain rfl:i=vs.length:=by omega
       have d1:¬(vs.length:Int)<vs.length:=by omega
       have d2:¬(1000000:Int)<vs.length:=by omega
       (repeat first|simp only[ww]|(apply xa;simp+decide only[go_sem,d1,htw1,htw2,d2];rfl;kernel_rfl))
       (apply fqb;simp+decide only[go_sem]<;>rfl)
section
variable {k m:Nat}(k1:1≤k)(k4:k≤4)(m1:1≤m)(m4:m≤4){vs:List (List UInt8)}(hvl:vs.length≤1000)(hvo:∀s∈vs,VecOk (sgs k m) s)
include k1 k4 m1 m4 hvl hvo
theorem b31{d:Bool}(H:a03):a0m L.env d (sem L.env Mf) (.func (.func 18) [] []) [.agg (b6g (sgs k m) vs)] H=some (.int .i64 0,H,[]):=a06 (by kernel_rfl) (by kernel_rfl) rfl (by simp only[List.nil_append,List.append_nil,a0h,a1o,b5c,a26]) (c6d k m k1 k4 m1 m4 vs hvl hvo) rfl
end
theorem c29(x:CX){i:Nat}(h:i<x.k):a0v x.nodes i=0:=by unfold a0v CX.nodes;rw[List.append_assoc,List.getElem?_append_left (by simpa using h),List.getElem?_replicate,if_pos h];rfl
theorem c2a(x:CX){i:Nat}(h:x.k≤i)(hn:i<x.n):a0v x.nodes i≠0:=by
 have hl:=CX.nodes_len x;obtain⟨nd,hnd⟩:∃nd,x.nodes[i]?=some nd:=⟨_,z9e (by omega)⟩
 rw[a2g hnd];have hnd':=hnd;unfold CX.nodes at hnd';rw[List.append_assoc,List.getElem?_append_right (by simpa using h),List.length_replicate]at hnd';have hmem:=List.mem_of_getElem? hnd';rw[List.mem_append]at hmem;rcases hmem with hm|hm
 ·unfold CX.dn at hm;obtain⟨v,_,rfl⟩:=List.mem_map.1 hm;show(14:Nat)≠0;omega
 ·obtain⟨q,hq⟩:=List.getElem?_of_mem hm;obtain⟨g,hg⟩:=c2s _ _ _ _ _ hq;have hgp:=b5v x.bus g (x.base++((Go.Pc.gN x.bus x.base x.gs).take q).map Nd.kind) (by
   rw[List.length_append,x.base_len];have:0<x.k:=by unfold CX.k;omega
   omega)
  rw[←hg]at hgp;have:=hgp.k1;omega
theorem c59(x:CX):kinds x.nodes 0=List.range x.k:=by
 unfold kinds a2v;have hl:=CX.nodes_len x;have hk:x.n=x.k+(x.n-x.k):=by unfold CX.n;omega
 rw[hl,hk,List.range_add,List.filter_append];have h1:(List.range x.k).filter (λi=>decide (a0v x.nodes i=0))=List.range x.k:=by rw[List.filter_eq_self];intro i hi;simp[c29 x (List.mem_range.1 hi)]
 have h2:((List.range (x.n-x.k)).map (x.k + ·)).filter (λi=>decide (a0v x.nodes i=0))=[]:=by rw[List.filter_eq_nil_iff];intro i hi;obtain⟨j,hj,rfl⟩:=List.mem_map.1 hi;have:=List.mem_range.1 hj;simp[c2a x (i:=x.k+j) (by omega) (by omega)]
 rw[h1,h2,List.append_nil]
theorem tio_of(x:CX):Tio (a9g x).cir (a9g x).k (a9g x).outN.length:=by
 have h1:(a9g x).k=x.inn%4+1:=rfl;have h2:(a9g x).outN.length=(x.outs.take 3).length+1:=by show(CX.outN _).length=_;unfold CX.outN;simp[a9g]
 have h3:(x.outs.take 3).length≤3:=List.length_take_le _ _;exact⟨c59 _,by omega,by omega,rfl,by omega,by omega⟩
theorem d08{v:Nat}(h:v≤3):c40 0 (a5w 48 49 v):=by
 have:v=0∨v=1∨v=2∨v=3:=by omega
 rcases this with rfl|rfl|rfl|rfl
 ·exact .inl ⟨rfl,.inl (by decide)⟩
 ·exact .inl ⟨rfl,.inr (.inl (by decide))⟩
 ·exact .inl ⟨rfl,.inr (.inr (by decide))⟩
 ·exact .inl ⟨rfl,.inr (.inr (by decide))⟩
theorem c6f{v:Nat}(h:v≤3):c40 1 (a5w 76 72 v):=by
 have:v=0∨v=1∨v=2∨v=3:=by omega
 rcases this with rfl|rfl|rfl|rfl
 ·exact .inr ⟨rfl,.inl (by decide)⟩
 ·exact .inr ⟨rfl,.inr (.inl (by decide))⟩
 ·exact .inr ⟨rfl,.inr (.inr (by decide))⟩
 ·exact .inr ⟨rfl,.inr (.inr (by decide))⟩
theorem c8b{k m:Nat}{a b:List Nat}(ha:a.length=k)(hb:b.length=m)(ha3:∀v∈a,v≤3)(hb3:∀v∈b,v≤3):VecOk (sgs k m) (cyc a b):=by
 refine⟨by unfold cyc;rw[List.length_append,List.length_map,List.length_map,a3b];omega,?_⟩;intro i g y hg hy;unfold sgs at hg;unfold cyc at hy;by_cases h:i<k
 ·rw[List.getElem?_append_left (by simpa using h),List.getElem?_map,List.getElem?_range h]at hg;rw[List.getElem?_append_left (by simp;omega),List.getElem?_map]at hy;cases hg;obtain⟨v,hv,rfl⟩:=Option.map_eq_some_iff.1 hy;exact d08 (ha3 v (List.mem_of_getElem? hv))
 ·rw[List.getElem?_append_right (by simp;omega),List.getElem?_map]at hg;rw[List.getElem?_append_right (by simp;omega),List.getElem?_map]at hy;obtain⟨j,hj,rfl⟩:=Option.map_eq_some_iff.1 hg;obtain⟨v,hv,rfl⟩:=Option.map_eq_some_iff.1 hy;exact c6f (hb3 v (List.mem_of_getElem? hv))
def xzc(v:Nat):Nat:=if v≤1 then v else 2
theorem c86:xzc 3=2:=rfl
theorem c18{v:Nat}(h:v≤3)(h3:v≠3):xzc v=v:=by
 have:v=0∨v=1∨v=2:=by omega
 rcases this with rfl|rfl|rfl<;>rfl
theorem c6g:∀v:Nat,v<4→sem L.env Mf 19 [.int .u8 (a5w 76 72 v).toNat] []=some (.int .u8 (xzc v),[]):=d41 (a0g (E:=L.env) a0f 60 (by kernel_rfl)) (a0g (E:=L.env) a0f 60 (by kernel_rfl)) (a0g (E:=L.env) a0f 60 (by kernel_rfl)) (a0g (E:=L.env) a0f 60 (by kernel_rfl))
theorem c6h:∀v:Nat,v<4→sem L.env Mf 19 [.int .u8 (a5w 48 49 v).toNat] []=some (.int .u8 (xzc v),[]):=d41 (a0g (E:=L.env) a0f 60 (by kernel_rfl)) (a0g (E:=L.env) a0f 60 (by kernel_rfl)) (a0g (E:=L.env) a0f 60 (by kernel_rfl)) (a0g (E:=L.env) a0f 60 (by kernel_rfl))
theorem b33{d:Bool}(H:a03)(v:Nat)(hv:v≤3)(y:UInt8)(hy:y=a5w 48 49 v∨y=a5w 76 72 v):a0m L.env d (sem L.env Mf) (.func (.func 19) [] []) [.int .u8 y.toNat] H=some (.int .u8 (xzc v),H,[]):=by
 rcases hy with rfl|rfl
 ·exact a06 (by kernel_rfl) (by kernel_rfl) rfl rfl (c6h v (by omega)) rfl
 ·exact a06 (by kernel_rfl) (by kernel_rfl) rfl rfl (c6g v (by omega)) rfl
end Go.UInst
