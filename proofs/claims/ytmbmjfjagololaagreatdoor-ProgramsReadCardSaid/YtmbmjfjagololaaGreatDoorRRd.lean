/- Part of a proof. No condition. -/
import Derived.Test.YtmbmjfjagololaaGreatDoorRGa
import Derived.Test.YtmbmjfjagololaaGreatDoorPcB
import Derived.Test.YtmbmjfjagololaaGreatDoorAxE
import Derived.Test.YtmbmjfjagololaaGreatDoorAxD
import Derived.Recover
import Derived.RecoverIn
import Derived.BigFrame
set_option linter.unusedSectionVars false
set_option linter.unusedSimpArgs false
set_option linter.unusedVariables false
namespace Go.RInst
open Go.Proofs Go.Ax Go.Pc
variable [PR]
set_option maxRecDepth 100000
/- the closure of IsName: a rune that no name has -/
theorem d6h(r:Nat):sem L.env Mf 56 [.int .i32 r] []=some (.bool (!(decide (33≤r)&&decide (r≤126))),[]):=by
 by_cases h1:r<33
 ·have c1:(r:Int)<33:=by omega
  have e:(!(decide (33≤r)&&decide (r≤126)))=true:=by simp;omega
  rw[e]
  (refine sv Tryz.f56 ?_;simp only[Tryz.f56,gS])
  (repeat first|simp only[ww]|(apply xa;simp+decide only[go_sem,c1];rfl;kernel_rfl))
  (apply fqb;simp+decide only[go_sem]<;>rfl)
 ·have c1:¬(r:Int)<33:=by omega
  by_cases h2:126<r
  ·have c2:(126:Int)<r:=by omega
   have e:(!(decide (33≤r)&&decide (r≤126)))=true:=by simp;omega
   rw[e]
   (refine sv Tryz.f56 ?_;simp only[Tryz.f56,gS])
   (repeat first|simp only[ww]|(apply xa;simp+decide only[go_sem,c1,c2];rfl;kernel_rfl))
   (apply fqb;simp+decide only[go_sem]<;>rfl)
  ·have c2:¬(126:Int)<r:=by omega
   have e:(!(decide (33≤r)&&decide (r≤126)))=false:=by simp;omega
   rw[e]
   (refine sv Tryz.f56 ?_;simp only[Tryz.f56,gS])
   (repeat first|simp only[ww]|(apply xa;simp+decide only[go_sem,c1,c2];rfl;kernel_rfl))
   (apply fqb;simp+decide only[go_sem]<;>rfl)
theorem c83{d:Bool}(H:a08)(r:Nat):a0e L.env d (sem L.env Mf) (.func (.func 56) [] []) [.int .i32 r] H=some (.bool (!(decide (33≤r)&&decide (r≤126))),H,[]):=a0l (by kernel_rfl) (by kernel_rfl) rfl rfl (d6h r) rfl
/- the loop over a string's runes -/
def c76:AV:=.func (.func 56) [] []
theorem c94{h:FHeap}{b:Nat}{s:List UInt8}{pos:Nat}(hb:h b=some (.siter s pos))(hl:pos<s.length):b1e h (.ptr b 0 0) true=some (.tuple [.bool true,.int .i64 pos,.int .i32 (Utf8.decode ⟨s.toArray⟩ pos).1],.set b (.siter s (pos+(Utf8.decode ⟨s.toArray⟩ pos).2))):=by unfold b1e;simp only[hb,e3e];rw[show Nat.blt pos s.length=true from by rw[e3f];exact hl];rfl
theorem c95{h:FHeap}{b:Nat}{s:List UInt8}{pos:Nat}(hb:h b=some (.siter s pos))(hl:¬pos<s.length):b1e h (.ptr b 0 0) true=some (.tuple [.bool false],.none):=by unfold b1e;simp only[hb,e3e];rw[show Nat.blt pos s.length=false from by rw[←e5q,e3f];exact hl];rfl
theorem c90{n:Nat}{s:List UInt8}:b4f L.env n 9 (.str s)=some (.ptr n 0 0,.new (.siter s 0)):=by
 have h:L.env.und 9=some .string:=by kernel_rfl
 unfold b4f;rw[h]
theorem e23(π:Nat→Option Nat)(s:List UInt8)(i:Nat):a0t π (.siter s i) = .siter s i:=rfl
theorem d62(s:List UInt8)(i:Nat):a36 (some (.siter s i))=[]:=rfl
theorem b8h(b:UInt8):(!(decide (33≤b.toNat)&&decide (b.toNat≤126))) = !b1y b:=rfl
def IxP(s:List UInt8)(v:AV):Prop:=(s.all b1y=true∧v = .int .i64 (-1))∨(s.all b1y=false∧∃k:Nat,v = .int .i64 k)
theorem d6s(s:List UInt8)(hl:s.length<9223372036854775807):∃r:AV×a08,(IxP s r.1∧r.2=[])∧sem L.env Mf 93 [.str s,c76,.bool true] []=some r:=by
 unfold c76
 (refine svE Tryz.f93 ?_;simp only[Tryz.f93,gS])
 (repeat first|simp only[ww]|(apply xa;simp+decide only[go_sem,c90];rfl;kernel_rfl))
 refine a15 (σ:=Nat) kp93_0 (λi=>[(1,.func (.func 56) [] []),(2,.bool true),(10,.ptr 0 0 0)]) (λi=>[some (.siter s i)]) (λi=>s.length-i) (λi=>i≤s.length∧∀b∈s.take i,b1y b=true) 0 ?_ ⟨e3h _,λx h=>by simp at h⟩ ?_
 ·(simp+decide only[go_sem,a0d,a07,e23,d62]<;>rfl)
 ·rintro i ⟨hi,bP⟩
  have hh:a03 [some (AObj.siter s i)] 0=some (.siter s i):=rfl;by_cases aq:i<s.length
  ·have hn:=c94 hh aq;obtain⟨b,hb⟩:∃b,s[i]?=some b:=⟨_,z9e aq⟩
   have hY:b∈s:=e25 hb;have nU:=λH=>c83 (d:=false) H (Utf8.decode ⟨s.toArray⟩ i).1;by_cases ho:b1y b=true
   ·have qG:b.toNat<128:=by simp[b1y]at ho;omega
    rw[b9d hb qG]at hn nU;simp only[b8h,ho,e6i]at nU
    (repeat first|simp only[ww]|(apply xa;simp+decide only[go_sem,hn,nU];rfl;kernel_rfl))
    refine a2p (i+1) ?_ (by omega) ⟨by omega,?_⟩
    ·(simp+decide only[go_sem,a0d,a07,e23,d62]<;>rfl)
    ·intro x hx;rw[e70,hb]at hx;rcases e65.1 hx with hx|hx
     ·exact bP x hx
     ·simp at hx;rw[hx];exact ho
   ·have aH:s.all b1y=false:=by
     rw[e6t];intro h;exact ho (e3n.1 h b hY)
    have p5:(!(decide (33≤(Utf8.decode ⟨s.toArray⟩ i).1)&&decide ((Utf8.decode ⟨s.toArray⟩ i).1≤126)))=true:=by
     by_cases qG:b.toNat<128
     ·rw[b9d hb qG,b8h];simpa using ho
     ·have:=c65 hb (by omega);simp;omega
    rw[p5]at nU
    (repeat first|simp only[ww]|(apply xa;simp+decide only[go_sem,hn,nU];rfl;kernel_rfl))
    (apply a4x;(·simp+decide only[go_sem]<;>rfl))
    exact⟨.inr ⟨aH,i,rfl⟩,rfl⟩
  ·obtain rfl:i=s.length:=by omega
   have hn:=c95 hh aq
   (repeat first|simp only[ww]|(apply xa;simp+decide only[go_sem,hn];rfl;kernel_rfl))
   (apply a4x;(·simp+decide only[go_sem]<;>rfl))
   refine⟨.inl ⟨?_,rfl⟩,rfl⟩;rw[e3c (e2c _)]at bP;exact e3n.2 bP
theorem d6t(s:List UInt8)(hl:s.length<9223372036854775807):∃r:AV×a08,(IxP s r.1∧r.2=[])∧sem L.env Mf 76 [.str s,c76] []=some r:=by
 obtain⟨⟨v,H1⟩,⟨h1,h2⟩,h3⟩:=d6s s hl;simp only at h1 h2;subst h2;have jK:a6g v=[]:=by rcases h1 with ⟨_,rfl⟩|⟨_,k,rfl⟩<;>rfl
 have h:=λd H=>a0l (E:=L.env) (ai:=d) (call:=sem L.env Mf) (g:=93) (fs:=[]) (cs:=[]) (ar:=[.str s,c76,.bool true]) (H:=H) (by kernel_rfl) (by kernel_rfl) rfl (by rfl) h3 jK;unfold c76 at h⊢;refine⟨(v,[]),⟨h1,rfl⟩,?_⟩;rcases h1 with ⟨_,rfl⟩|⟨_,k,rfl⟩
 ·(refine sv Tryz.f76 ?_;simp only[Tryz.f76,gS])
  (repeat first|simp only[ww]|(apply xa;simp+decide only[go_sem,h];rfl;kernel_rfl))
  (apply fqb;simp+decide only[go_sem]<;>rfl)
 ·(refine sv Tryz.f76 ?_;simp only[Tryz.f76,gS])
  (repeat first|simp only[ww]|(apply xa;simp+decide only[go_sem,h];rfl;kernel_rfl))
  (apply fqb;simp+decide only[go_sem]<;>rfl)
theorem d7q(s:List UInt8)(hl:s.length<9223372036854775807):sem L.env Mf 57 [.str s,c76] []=some (.bool (!(s.all b1y)),[]):=by
 obtain⟨⟨v,H1⟩,⟨h1,h2⟩,h3⟩:=d6t s hl;simp only at h1 h2;subst h2;have jK:a6g v=[]:=by rcases h1 with ⟨_,rfl⟩|⟨_,k,rfl⟩<;>rfl
 have h:=λd H=>a0l (E:=L.env) (ai:=d) (call:=sem L.env Mf) (g:=76) (fs:=[]) (cs:=[]) (ar:=[.str s,c76]) (H:=H) (by kernel_rfl) (by kernel_rfl) rfl (by rfl) h3 jK;unfold c76 at h⊢;rcases h1 with ⟨ha,rfl⟩|⟨ha,k,rfl⟩
 ·have c1:¬(0:Int)≤ -1:=by omega
  rw[ha]
  (refine sv Tryz.f57 ?_;simp only[Tryz.f57,gS])
  (repeat first|simp only[ww]|(apply xa;simp+decide only[go_sem,h,c1];rfl;kernel_rfl))
  (apply fqb;simp+decide only[go_sem]<;>rfl)
 ·have c1:(0:Int)≤k:=by omega
  rw[ha]
  (refine sv Tryz.f57 ?_;simp only[Tryz.f57,gS])
  (repeat first|simp only[ww]|(apply xa;simp+decide only[go_sem,h,c1];rfl;kernel_rfl))
  (apply fqb;simp+decide only[go_sem]<;>rfl)
theorem c5k(s:List UInt8):sem L.env Mf 27 [.str s] []=some (.bool (a3s s),[]):=by
 cases s with
 |nil=>
  (refine sv Tryz.f27 ?_;simp only[Tryz.f27,gS])
  (repeat first|simp only[ww]|(apply xa;simp+decide only[go_sem];rfl;kernel_rfl))
  (apply fqb;simp+decide only[go_sem,a3s]<;>rfl)
 |cons a r=>
  have c0:¬(a::r)=([]:List UInt8):=by simp
  have c3:0<r.length+1:=by omega
  by_cases h1:(a::r).length≤32
  ·have h:=λd H=>a0l (E:=L.env) (ai:=d) (call:=sem L.env Mf) (g:=57) (fs:=[]) (cs:=[]) (ar:=[.str (a::r),c76]) (H:=H) (by kernel_rfl) (by kernel_rfl) rfl (by rfl) (d7q (a::r) (by omega)) rfl;unfold c76 at h;have c1:((r.length+1:Nat):Int)≤32:=by simp only[b94]at h1;omega
   by_cases h2:a.toNat=35
   ·have e:a3s (a::r)=false:=by simp[a3s,h2]
    rw[e]
    (refine sv Tryz.f27 ?_;simp only[Tryz.f27,gS])
    (repeat first|simp only[ww]|(apply xa;simp+decide only[go_sem,c0,c1,c3,h2,e29];rfl;kernel_rfl))
    (apply fqb;simp+decide only[go_sem]<;>rfl)
   ·have c2:¬(a.toNat:Int)=35:=by omega
    have e:a3s (a::r)=(a::r).all b1y:=by
     have:Nat.beq a.toNat 35=false:=by rw[←e5q,e5a];exact h2
     simp only[a3s,h1,this,e7a,e6d,e7g]
    rw[e];generalize(a::r).all b1y=q at h⊢
    (refine sv Tryz.f27 ?_;simp only[Tryz.f27,gS])
    (repeat first|simp only[ww]|(apply xa;simp+decide only[go_sem,c0,c1,c3,c2,h,e29];rfl;kernel_rfl))
    (apply fqb;simp+decide only[go_sem,Bool.not_not]<;>rfl)
  ·have c1:¬((r.length+1:Nat):Int)≤32:=by simp only[b94]at h1;omega
   have e:a3s (a::r)=false:=by simp[a3s];intro h;simp at h1;omega
   rw[e]
   (refine sv Tryz.f27 ?_;simp only[Tryz.f27,gS])
   (repeat first|simp only[ww]|(apply xa;simp+decide only[go_sem,c0,c1];rfl;kernel_rfl))
   (apply fqb;simp+decide only[go_sem]<;>rfl)
theorem b3h{d:Bool}(H:a08)(s:List UInt8):a0e L.env d (sem L.env Mf) (.func (.func 27) [] []) [.str s] H=some (.bool (a3s s),H,[]):=a0l (by kernel_rfl) (by kernel_rfl) rfl rfl (c5k s) rfl
end Go.RInst
namespace Go.RInst
open Go.Proofs Go.Ax Go.Pc
variable [PR]
set_option maxRecDepth 100000
def a4m(e:Int):Value:=.iface 31 (.int .i64 e)
theorem noF:∀y∈Mf,b0f L.env y:=by intro y hy;cases hy
theorem d20(e:Int):sem L.env Mf 62 [.bool true,.int .i64 e] []=some (.tuple [],[]):=by
 (refine sv Tryz.f62 ?_;simp only[Tryz.f62,gS])
 (repeat first|simp only[ww]|(apply xa;simp+decide only[go_sem];rfl;kernel_rfl))
 (apply fqb;simp+decide only[go_sem]<;>rfl)
theorem a0i{d:Bool}(H:a08)(e:Int):a0e L.env d (sem L.env Mf) (.func (.func 62) [] []) [.bool true,.int .i64 e] H=some (.tuple [],H,[]):=a0l (by kernel_rfl) (by kernel_rfl) rfl rfl (d20 e) rfl
theorem a11(al:DrOk L.env)(e:Int):PanF L.env 62 [.bool false,.int .i64 e] [] (a4m e):=by
 refine pf Tryz.f62 ok al noF (by kernel_rfl) ?_;simp only[Tryz.f62,gS];refine pcs ?_
 (repeat first|simp only[ww]|(apply xa;simp+decide only[go_sem];rfl;kernel_rfl))
 refine a1m ?_;refine PanG.condT (by simp only[go_sem]) ?_;refine pcr 2 (by(simp+decide only[go_sem,c35,e28];rfl)) rfl rfl (d6c (k:=.i64) (n:=e) rfl (by simp only[go_sem]))
end Go.RInst
namespace Go.RInst
open Go.Proofs Go.Ax Go.Pc
variable [PR]
set_option maxRecDepth 100000
/- "signal a on", cut -/
def soT:List UInt8:=[115,105,103,110,97,108,32,97,32,111,110]
def soW:List (List AV):=[[.str [115,105,103,110,97,108]],[.str [97]],[.str [111,110]]]
theorem e0t:sem L.env Mf 23 [.str soT,.str [32]] []=some (.slice 0 0 3 (some 3),[some (.row 1 soW)]):=c4e (E:=L.env) a9o b84 60 (by kernel_rfl)
theorem e0u:sem L.env Mf 63 [.slice 0 0 3 (some 3),.func (.func 64) [] []] [some (.row 1 soW)]=some (.slice 0 0 3 (some 3),[some (.row 1 soW)]):=c4e (E:=L.env) a9o b84 60 (by kernel_rfl)
def rd0:Option AObj:=some (.row 4 [[.nilslice,.nilslice,.nilslice,.int .i64 0]])
theorem d5k(al:DrOk L.env):PanF L.env 65 [.ptr 0 0 0,.slice 1 0 3 (some 3)] [rd0,some (.row 1 soW)] (a4m 4):=by refine pf Tryz.f65 ok al noF (by kernel_rfl) ?_;simp only[Tryz.f65,gS];unfold rd0 soW;refine PanG.seqL ?_;refine pcr 15 (by(simp+decide only[go_sem,c35,e28];rfl)) rfl rfl (a1z (g1:=62) (l:=[.bool false,.int .i64 4]) rfl (by simp only[go_sem]) (by simp only[go_sem]) rfl (a11 al 4))
/- the table of the readers of a line -/
def a1o:List UInt8:=[115,105,103,110,97,108]
def a24:List UInt8:=[116,105,109,105,110,103]
def a34:List UInt8:=[118,101,99,116,111,114]
def fS:AV:=.func (.func 65) [.ptr 0 0 0] []
def fT:AV:=.func (.func 66) [.ptr 0 0 0] []
def fV:AV:=.func (.func 67) [.ptr 0 0 0] []
theorem e45(a b:Option AObj):a0c L.env (a03 [a,b,some (.map [] [] [] 0)]) 114 (.map 2) (.str [115,105,103,110,97,108]) (.func (.func 65) [.ptr 0 0 0] [])=some (.set 2 (.map [.str a1o] [fS] [0] 1)):=by kernel_rfl
theorem e44(a b:Option AObj):a0c L.env (a03 [a,b,some (.map [.str a1o] [fS] [0] 1)]) 114 (.map 2) (.str [116,105,109,105,110,103]) (.func (.func 66) [.ptr 0 0 0] [])=some (.set 2 (.map [.str a1o,.str a24] [fS,fT] [0,1] 2)):=by kernel_rfl
theorem e43(a b:Option AObj):a0c L.env (a03 [a,b,some (.map [.str a1o,.str a24] [fS,fT] [0,1] 2)]) 114 (.map 2) (.str [118,101,99,116,111,114]) (.func (.func 67) [.ptr 0 0 0] [])=some (.set 2 (.map [.str a1o,.str a24,.str a34] [fS,fT,fV] [0,1,2] 3)):=by kernel_rfl
theorem e42(a b:Option AObj):a28 L.env (a03 [a,b,some (.map [.str a1o,.str a24,.str a34] [fS,fT,fV] [0,1,2] 3)]) 114 (.map 2) (.str [115,105,103,110,97,108]) true=some (.tuple [fS,.bool true]):=by kernel_rfl
theorem d19(al:DrOk L.env):PanF L.env 41 [.ptr 0 0 0,.str soT] [rd0] (a4m 4):=by
 have hs:a0e L.env false (sem L.env Mf) (.func (.func 23) [] []) [.str soT,.str [32]] [rd0]=some (.slice 1 0 3 (some 3),[rd0,some (.row 1 soW)],[]):=a9d (v:=.slice 0 0 3 (some 3)) (L:=[some (.row 1 soW)]) (by kernel_rfl) (by kernel_rfl) rfl rfl e0t;have hd:a0e L.env false (sem L.env Mf) (.func (.func 63) [] []) [.slice 1 0 3 (some 3),.func (.func 64) [] []] [rd0,some (.row 1 soW)]=some (.slice 1 0 3 (some 3),[rd0,some (.row 1 soW)],[1]):=a0z (by kernel_rfl) (by kernel_rfl) rfl (b:=1) (o:=.row 1 soW) (o':=.row 1 soW) rfl rfl (by intro π;rfl) rfl rfl e0u (by intro π;rfl) rfl;unfold rd0 soW at hs hd;refine pf Tryz.f41 ok al noF (by kernel_rfl) ?_;simp only[Tryz.f41,gS];unfold rd0;have hl:soT.length=11:=rfl;have aF:=λd H e=>a0i (d:=d) H e;refine pcs ?_
 (repeat first|simp only[ww]|(apply xa;simp+decide only[go_sem,aF,hl];rfl;kernel_rfl))
 refine a1m ?_;refine pcs ?_
 (repeat first|simp only[ww]|(apply xa;simp+decide only[go_sem,hs,hd];rfl;kernel_rfl))
 refine a1m ?_;refine pcs ?_
 (repeat first|simp only[ww]|(apply xa;simp+decide only[go_sem];rfl;kernel_rfl))
 refine a1m ?_;refine pcs ?_
 (repeat first|simp only[ww]|(apply xa;simp+decide only[go_sem,e45,e44,e43,e42];rfl;kernel_rfl))
 refine a1m ?_;refine pcs ?_
 (repeat first|simp only[ww]|(apply xa;simp+decide only[go_sem,aF];rfl;kernel_rfl))
 refine a1m ?_;refine pcr 2 (by(simp+decide only[go_sem,c35,e28];rfl)) rfl rfl (PanOG.noF (d1t (σ:=[0,1]) (l:=[.ptr 0 0 0,.slice 1 0 3 (some 3)]) (l1:=[.ptr 0 0 0,.slice 1 0 3 (some 3)]) (g1:=65) (fs:=[.ptr 0 0 0]) (cs:=[]) (Hs:=[rd0,some (.row 1 soW)]) rfl (by simp only[go_sem];rfl) (by simp only[go_sem]) (by kernel_rfl) (by kernel_rfl) rfl rfl (d5k al)))
end Go.RInst
namespace Go.RInst
open Go.Proofs Go.Ax Go.Pc
variable [PR]
set_option maxRecDepth 100000
theorem e0m(v:Value)(w:World):(Instr.typeAssert (.iface 31 v) 20 31 true).run Tryz.prog w = .ok (.tuple #[v,.bool true]) w:=by kernel_rfl
theorem d5d(w:World):(Instr.typeAssert .nilIface 20 31 true).run Tryz.prog w = .ok (.tuple #[.int .i64 0,.bool false]) w:=by kernel_rfl
/- the deferred closure, in a panic -/
theorem d7s(e:Int)(c0 c1 c2:Value)(cf:Frame)(cs:List Frame)(w:World)(hu:cf.mode = .panicking [{ v:=a4m e,recovered:=false }]){Q:Exit→Act→List Frame→World→Prop}
 (hQ:∀t:Array Value,t.size=15→t.getD 0 undef=c0→t.getD 1 undef=c1→t.getD 2 undef=c2→t.getD 3 undef = .int .i64 e→t.getD 4 undef = .bool true→Q .normal ⟨t,[]⟩ ({ cf with mode:=.panicking [{ v:=a4m e,recovered:=true }] }::cs) w) :
 (match(Tryz.f40.body.getD .skip)with|.seq a b=>a|c=>c).wpSIn Fence.wide 0 Tryz.prog Q { tmps:=#[c0,c1,c2]++Array.replicate 12 undef,defers:=[] } (cf::cs) w:=by
 simp only[Tryz.f40,gS];refine wpSIn_region ?_;simp[wpOpsSIn,go_sem,recoverD,hu,a4m,e0m];exact hQ _ (by simp) (by kernel_rfl) (by kernel_rfl) (by kernel_rfl) (by kernel_rfl) (by kernel_rfl)
abbrev clO:Option AObj:=some (.row 3 [[.nilslice,.nilslice,.nilslice]])
abbrev clF(e n:Int):Option AObj:=some (.row 2 [[.int .i64 e,.int .i64 n]])
abbrev clN(n:Int):Option AObj:=some (.row 1 [[.int .i64 n]])
theorem e1s(al:DrOk L.env){I K:Nat→Prop}{ρ:PMap}{w:World}(e n:Int)(x y z a b:AV)(r:HRel L.env.G I K ρ (a03 [some (.row 3 [[x,y,z]]),some (.row 2 [[a,b]]),clN n]) w)(hn:NRel ρ 3){c0 c1 c2:Value}
 (ha:VRels I w ρ [.ptr 2 0 0,.ptr 0 0 0,.ptr 1 0 0] [c0,c1,c2]) :
 CallsDIn Fence.wide 0 Tryz.prog 40 #[c0,c1,c2] (.panicking [{ v:=a4m e,recovered:=false }]) w λen u' w'=>en = .returned (.tuple #[])∧u' = .panicking [{ v:=a4m e,recovered:=true }]∧
  ∃I' ρ',(∀c,I c→I' c)∧(∀b,b<3→ρ' b=ρ b)∧Ext I K w w'∧HRel L.env.G I' K ρ' (a03 [clO,clF e n,clN n]) w'∧NRel ρ' 3:=by
 have cI:L.env.fn 40=some ⟨Tryz.f40.body.getD .skip,15,[]⟩:=by kernel_rfl
 refine callsDIn_of_wpSIn (fn:=Tryz.f40) (c:=Tryz.f40.body.getD .skip) (by kernel_rfl) rfl trivial ?_;intro cf cs hu;have j7:=λQ=>d7s (Q:=Q) e c0 c1 c2 cf cs w hu;have jD:=al.draws _ _ cI;have bv:=al.code cI;simp only[Tryz.f40,gS]at j7 jD bv⊢;refine wpSIn_seq (j7 _ ?_);intro t bA g0 g1 g2 g3 g4;refine wpSIn_of_wpIn rfl ?_;obtain⟨k0,k1,k2⟩:VRel I w ρ (.ptr 2 0 0) c0∧VRel I w ρ (.ptr 0 0 0) c1∧VRel I w ρ (.ptr 1 0 0) c2:=by simp only[VRels]at ha;obtain⟨_,_,e0,h0,_,_,e1,h1,_,_,e2,h2,e3⟩:=ha;cases e0;cases e1;cases e2;exact⟨h0,h1,h2⟩
 let ent:Entry:=⟨I,K,ρ,3,w,[]⟩
 have ae:Now L.env ent 15 [(0,.ptr 2 0 0),(1,.ptr 0 0 0),(2,.ptr 1 0 0),(3,.int .i64 e),(4,.bool true)] [some (.row 3 [[x,y,z]]),some (.row 2 [[a,b]]),clN n] I ρ ⟨t,[]⟩ w:=by
  refine⟨λ_ h=>h,λ_ _=>rfl,Ext.refl _ _ _,r,hn,⟨bA,λs=>?_⟩,e2c _,Marks.nil⟩;simp only[a2h];by_cases e0:s=0
  ·subst e0;show VRel I w ρ (.ptr 2 0 0) _;rw[g0];exact k0
  by_cases e1:s=1
  ·subst e1;show VRel I w ρ (.ptr 0 0 0) _;rw[g1];exact k1
  by_cases e2:s=2
  ·subst e2;show VRel I w ρ (.ptr 1 0 0) _;rw[g2];exact k2
  by_cases e3:s=3
  ·subst e3;show VRel I w ρ (.int .i64 e) _;rw[g3];simp[VRel]
  by_cases e4:s=4
  ·subst e4;show VRel I w ρ (.bool true) _;rw[g4];simp[VRel]
  have hj:∀k,k≠s→Nat.beq k s=false:=λk hk=>by rw[←e5q,e5a];exact hk
  simp only[hj 0 (e3m e0),hj 1 (e3m e1),hj 2 (e3m e2),hj 3 (e3m e3),hj 4 (e3m e4),e3p];simp[VRel]
 refine wpIn_seq (b6x ok al noF (ro:=none) (F1:=(10,.bool true)::_) (by simp[b0x]) (by simp+decide only[go_sem];rfl) ae ?_);intro I1 ρ1 a1 w1 aY jC;show Code.wpIn _ _ _ _ _ _ _;have oM:VRel I1 w1 ρ1 (.bool true) (a1.tmps.getD 10 undef):=aY.frm.2 10;simp only[VRel]at oM;refine wpIn_cond_true oM ?_;refine b6x ok al noF (ro:=none) (H1:=[clO,clF e n,clN n]) (by simp[b0x]) (by simp+decide only[go_sem];rfl) aY ?_;intro I2 ρ2 a2 w2 fG qx;refine⟨qx.trans jC,_,rfl,.tuple #[],by simp[results],rfl,rfl,I2,ρ2,fG.imm,fG.map,fG.ext,fG.rel,fG.nrel⟩
end Go.RInst
namespace Go.RInst
open Go.Proofs Go.Ax Go.Pc
variable [PR]
set_option maxRecDepth 100000
noncomputable def b5e:Code:=match Tryz.f19.body.getD .skip with|.seq _ (.seq _ (.seq _ (.seq _ c)))=>c|c=>c
def rdF(s:List UInt8):Frm:=[(13,.func (.func 40) [] [.ptr 2 0 0,.ptr 0 0 0,.ptr 1 0 0]),(4,.ptr 2 0 0),(10,.bool false),(9,.int .i64 s.length),(8,.str s),(3,.ptr 1 0 0),(2,.ptr 0 0 0),(0,.str s)]
theorem ds2{a b:Code}(h:a1p false (.seq a b)=true):a1p false b=true:=by simp only[a1p,b46]at h;exact h.2
/- the three blocks that the closure c8g -/
theorem e4t{I K:Nat→Prop}{ρ:PMap}{w:World}{x y z a b:AV}{n:Int}{R:a08}(hx:a0x [x,y,z]=[])(ha:a0x [a,b]=[])(r:HRel L.env.G I K ρ (a03 (some (.row 3 [[x,y,z]])::some (.row 2 [[a,b]])::clN n::R)) w) :
 HRel L.env.G I K (λb=>if b<3 then ρ b else none) (a03 [some (.row 3 [[x,y,z]]),some (.row 2 [[a,b]]),clN n]) w:=by
 refine r.rename (π:=λb=>if b<3 then some b else none) ?_ ?_ ?_
 ·intro b b' m hb hm;split at hb
  ·rename_i aq;cases hb;rw[e3g aq];exact hm
  ·cases hb
 ·intro b' o' hb
  match b',hb with
  |0,hb=>cases hb;exact⟨0,_,rfl,rfl,by show _=AObj.row 3 [[x,y,z].map (ren _)];rw[a5f _ hx]⟩
  |1,hb=>cases hb;exact⟨1,_,rfl,rfl,by show _=AObj.row 2 [[a,b].map (ren _)];rw[a5f _ ha]⟩
  |2,hb=>cases hb;exact⟨2,_,rfl,rfl,rfl⟩
  |b+3,hb=>cases hb
 ·intro b' m hb;split at hb
  ·exact r.dom b' m hb
  ·cases hb
theorem c7y(al:DrOk L.env)(s:List UInt8)(hl:s.length≤1048576)(e n:Int)(x y z a b:AV)(R:a08)(F5:Frm)(hx:a0x [x,y,z]=[])(mX:a0x [a,b]=[])
 (cj:PanG (cx L.env Mf 3 49 19 0) b5e (rdF s) [clO,some (.row 2 [[.int .i64 0,.int .i64 0]]),clN 0] (a4m e) F5 (some (.row 3 [[x,y,z]])::some (.row 2 [[a,b]])::clN n::R))
 (f2:a2h F5 2 = .ptr 0 0 0)(f3:a2h F5 3 = .ptr 1 0 0){I K:Nat→Prop}{ρ:PMap}{w:World}{ah:List Value}(rel:HRel L.env.G I K ρ (a03 []) w)(hn:NRel ρ 0)(ha:VRels I w ρ [.str s] ah) :
 XOf L.env 19 ah w λen w'=>∃c I' ρ',en = .returned c∧Ret L.env I K ρ 0 w I' ρ' [] w'∧VRel I' w' ρ' (.tuple [.agg [.nilslice,.nilslice,.nilslice],.agg [.int .i64 e,.int .i64 n]]) c:=by
 have cI:L.env.fn 19=some ⟨Tryz.f19.body.getD .skip,49,[.cell 2 29,.cell 3 56]⟩:=by kernel_rfl
 have jD:a1p false (Tryz.f19.body.getD .skip)=true:=al.draws _ _ cI;have bv:=al.code cI;rw[a3l (b20 ok cI)];refine callsIn_wide.1 (callsIn_of_wp_marks (F:=Fence.wide) (n:=0) (fn:=Tryz.f19) (c:=Tryz.f19.body.getD .skip) (by kernel_rfl) rfl trivial ?_)
 let e0:Entry:=⟨I,K,ρ,0,w,[]⟩
 have ae:Now L.env e0 49 (a3k 0 [.str s]) [] I ρ { tmps:=ah.toArray++Array.replicate (49-ah.toArray.size) undef,defers:=[] } w:=⟨λ_ h=>h,λ_ _=>rfl,Ext.refl _ _ _,rel,hn,b03 (by simp) ha,e2c _,Marks.nil⟩
 have c1:¬(1048576:Int)<s.length:=by omega
 simp only[Tryz.f19,gS]at jD bv⊢;refine gos ok al noF (ro:=none) (e:=e0) (m:=0) rfl jD bv ?_ ae
 (repeat first|simp only[ww]|(apply xa;simp+decide only[go_sem];rfl;kernel_rfl))
 refine d4g ?_;intro I1 ρ1 a1 w1 aY;refine gos ok al noF (ro:=none) (e:=e0) (m:=0) rfl (ds2 jD) bv.seq2 ?_ aY
 (repeat first|simp only[ww]|(apply xa;simp+decide only[go_sem,c1];rfl;kernel_rfl))
 refine d4g ?_;intro I2 ρ2 a2 w2 fG;refine gos ok al noF (ro:=none) (e:=e0) (m:=0) rfl (ds2 (ds2 jD)) bv.seq2.seq2 ?_ fG
 (repeat first|simp only[ww]|(apply xa;simp+decide only[go_sem];rfl;kernel_rfl))
 refine d4g ?_;intro I3 ρ3 a3 w3 fv;refine wpIn_seq (c62 ok al noF rfl rfl rfl rfl rfl rfl (by rfl) fv ?_);intro I4 ρ4 a4 w4 cs eN dp;show Code.wpIn _ _ _ _ _ _ _
 let e1:Entry:=⟨I4,K,ρ4,3,w4,⟨.fn (.func 40) cs.toArray,#[]⟩::a4.defers⟩
 have ke:Now L.env e1 49 (rdF s) [clO,some (.row 2 [[.int .i64 0,.int .i64 0]]),clN 0] I4 ρ4 { a4 with defers:=⟨.fn (.func 40) cs.toArray,#[]⟩::a4.defers } w4:=⟨λ_ h=>h,λ_ _=>rfl,Ext.refl _ _ _,eN.rel,eN.nrel,eN.frm,e2c _,Marks.nil⟩
 refine cj ok al noF (fid:=19) (ro:=none) (e:=e1) rfl (ds2 (ds2 (ds2 (ds2 jD)))) bv.seq2.seq2.seq2.seq2 ?_ ke;intro I5 ρ5 a5 w5 gB;obtain⟨rs,q1,q2,q3⟩:=gB.marks;show LeavesInM _ _ _ _ _ _ a5.defers _ _;rw[q1];refine a6x (by simp) rs w5 q2 (λr hr=>(q3 r hr).2.2) ?_;obtain⟨r6,x6⟩:=b26 gB.ext (λc hc=>hc.elim (eN.rel.imm c) (eN.rel.kept c)) gB.rel q3;have r7:=e4t hx mX r6;have hρ:∀b,b<3→(if b<3 then ρ5 b else none)=ρ4 b:=λb hb=>by rw[e3g hb];exact gB.map b hb
 obtain⟨c0,kX,c2,rfl,k0,k1,k2⟩:∃c0 c1 c2,cs=[c0,c1,c2]∧VRel I4 w4 ρ4 (.ptr 2 0 0) c0∧VRel I4 w4 ρ4 (.ptr 0 0 0) c1∧VRel I4 w4 ρ4 (.ptr 1 0 0) c2:=by have dp:VRels I4 w4 ρ4 [.ptr 2 0 0,.ptr 0 0 0,.ptr 1 0 0] cs:=dp;simp only[VRels]at dp;obtain⟨d0,_,rfl,h0,d1,_,rfl,h1,d2,_,rfl,h2,rfl⟩:=dp;exact⟨d0,d1,d2,rfl,h0,h1,h2⟩
 have lO:∀{b:Nat} {c:Value} {I' oP:Nat→Prop} {u u':World} {ρ' ρ'':PMap},VRel I' u ρ' (.ptr b 0 0) c→ρ'' b=ρ' b→VRel oP u' ρ'' (.ptr b 0 0) c:=by intro b c I' oP u u' ρ' ρ'' h hb;simp only[VRel]at h⊢;obtain⟨m,hm,rfl⟩:=h;exact⟨m,by rw[hb];exact hm,rfl⟩
 show LeavesInM _ _ _ _ _ _ (⟨.fn (.func 40) #[c0,kX,c2],#[]⟩::a4.defers) _ _;unfold LeavesInM;refine⟨by simp,.inr ⟨λh=>(by cases h),.func 40,#[c0,kX,c2],40,#[c0,kX,c2],rfl,?_,λ_ _=>trivial,?_⟩⟩
 ·show(callFunc 40 (#[] ++ #[c0,kX,c2])).run L.env.P _=_;rw[a1u ok (by kernel_rfl)];simp
 refine CallsDIn.mono (e1s al e n x y z a b r7 (λb hb=>e2i (by omega)) (by simp only[VRels];exact⟨_,_,rfl,lO k0 (hρ 2 (by omega)),_,_,rfl,lO k1 (hρ 0 (by omega)),_,_,rfl,lO k2 (hρ 1 (by omega)),rfl⟩)) ?_
 rintro en u' w7 ⟨rfl,rfl,I7,ρ7,i7,m7,x7,pw,n7⟩
 show LeavesInM _ _ _ _ _ _ a4.defers .returning w7;obtain⟨nu,p1,p2,p3⟩:=eN.marks;rw[p1,show e0.base=[]from rfl,e2h];have qi:∀c,I4 c→w7.heap[c]?=w4.heap[c]?:=λc hc=>(x7.keep c (.inl (gB.imm c hc))).trans (x6.keep c (.inl hc));have x8:Ext I K w w7:=eN.ext.trans eN.imm (x6.trans gB.imm x7);have p4:∀r∈nu,I7 r∧w.heap.size≤r∧w7.heap[r]?=some (.deferred (some [])):=λr hr=>⟨i7 r (gB.imm r (p3 r hr).1),(p3 r hr).2.1,(qi r (p3 r hr).1).trans (p3 r hr).2.2⟩
 obtain⟨r9,x9⟩:=b26 x8 (λc hc=>hc.elim (rel.imm c) (rel.kept c)) pw p4;refine a5s nu w7 p2 (λr hr=>(p4 r hr).2.2) ?_;have t2:VRel I5 w5 ρ5 (.ptr 0 0 0) (a5.tmps.getD 2 undef):=by have:=gB.frm.2 2;rwa [f2]at this
 have t3:VRel I5 w5 ρ5 (.ptr 1 0 0) (a5.tmps.getD 3 undef):=by have:=gB.frm.2 3;rwa [f3]at this
 have rz:∀b,b<3→ρ7 b=ρ5 b:=λb hb=>by rw[m7 b hb,e3g hb]
 obtain⟨c,ac,hv⟩:=b0t (fn:=Tryz.f19) (tmps:=a5.tmps) (F:=[(2,.ptr 0 0 0),(3,.ptr 1 0 0)]) ok r9 (λs=>by
  simp only[a2h];by_cases e2:s=2
  ·subst e2;exact lO t2 (rz 0 (by omega))
  by_cases e3:s=3
  ·subst e3;exact lO t3 (rz 1 (by omega))
  have hj:∀k,k≠s→Nat.beq k s=false:=λk hk=>by rw[←e5q,e5a];exact hk
  simp only[hj 2 (e3m e2),hj 3 (e3m e3),e3p];simp[VRel]) (vs:=[.agg [.nilslice,.nilslice,.nilslice],.agg [.int .i64 e,.int .i64 n]]) (by show a1l L.env [(2,.ptr 0 0 0),(3,.ptr 1 0 0)] [clO,clF e n,clN n] [.cell 2 29,.cell 3 56]=_;simp+decide only[go_sem])
 refine⟨c,ac,c,I7,λ_=>none,rfl,⟨λc hc=>i7 c (gB.imm c (eN.imm c hc)),λb hb=>by omega,x9,⟨λb o hb=>(by simp[a03]at hb),λb b' m m' hb=>(by simp[a03]at hb),λb m hb=>(by cases hb),r9.imm,r9.kept,r9.apart,r9.glob⟩,λ_ _=>rfl,e2c _⟩,?_⟩;have:=VRel.ren (π:=λ_=>none) (ρ':=λ_=>none) (λb b' m h=>by cases h) _ hv
 rwa [a8f _ _ (by rfl)]at this
end Go.RInst
namespace Go.RInst
open Go.Proofs Go.Ax Go.Pc
variable [PR]
set_option maxRecDepth 100000
end Go.RInst
namespace Go.RInst
open Go.Proofs Go.Ax Go.Pc
variable [PR]
set_option maxRecDepth 100000
def soV:AV:=.tuple [.agg [.nilslice,.nilslice,.nilslice],.agg [.int .i64 4,.int .i64 1]]
/- the law's own line, read -/
theorem b8d(a:List AV):L.env.prim 19 a=PR.pr a:=by rfl
theorem c1r(nN:∀a r,PR.pr a=some r→r.2=[]∧∀(I K:Nat→Prop) (ρ:PMap) (w:World) (ah:List Value),HRel L.env.G I K ρ (a03 []) w→NRel ρ 0→VRels I w ρ a ah→
 XOf L.env 19 ah w λen w'=>∃c I' ρ',en = .returned c∧Ret L.env I K ρ 0 w I' ρ' [] w'∧VRel I' w' ρ' r.1 c):a4h L.env 19 (primH L.env 19):=by
 intro a H v H' h I K ρ w ah rel hn ha;unfold primH at h;rw[b8d]at h;cases hp:PR.pr a with
 |none=>rw[hp]at h;cases h
 |some r=>
  obtain⟨h1,h2⟩:=nN a r hp;rw[hp]at h;obtain⟨rv,rH⟩:=r;simp only at h1;subst h1;cases H with
  |cons _ _=>cases h
  |nil=>cases h;exact h2 I K ρ w ah rel hn ha
theorem b2a{a:List AV}{v:AV}(h:PR.pr a=some (v,[])):sem L.env Mf 19 a []=some (v,[]):=by refine a90 (by intro y hy;cases hy) 0 ?_;unfold a6c primH;rw[b8d,h]
end Go.RInst
namespace Go.RInst
open Go.Proofs Go.Ax
@[reducible] def PR0:PR:=⟨λ_=>none⟩
theorem dr0:DrOk (@L PR0).env:=@dr PR0 (@c1r PR0 (λa r h=>by cases h))
end Go.RInst
namespace Go.RInst
open Go.Proofs Go.Ax Go.Pc
variable [PR]
set_option maxRecDepth 100000
theorem c88(mw:PR.pr [.str soT]=some (soV,[])):sem L.env Mf 14 [] []=some (.bool true,[]):=c4f (E:=L.env) (M:=[⟨19,[.str soT],soV⟩]) (c4d (b2a mw) a9o) 60 (g:=14) (args:=[]) (v:=.bool true) (by kernel_rfl)
end Go.RInst
