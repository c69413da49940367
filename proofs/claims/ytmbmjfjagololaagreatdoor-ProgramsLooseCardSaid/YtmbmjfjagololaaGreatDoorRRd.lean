/- Part of a proof. No condition. -/
import Derived.Test.YtmbmjfjagololaaGreatDoorRGa
import Derived.Test.YtmbmjfjagololaaGreatDoorPcB
import Derived.Test.YtmbmjfjagololaaGreatDoorAxE
import Derived.Test.YtmbmjfjagololaaGreatDoorAxD
import Derived.Recover
import Derived.RecoverIn
import Derived.BigFrame
set_option linter.unusedSectionVars false
set_option linter.unusedSimpArgs false
set_option linter.unusedVariables false
namespace Go.RInst
open Go.Proofs Go.Ax Go.Pc
variable [PR]
set_option maxRecDepth 100000
/- the closure of IsName: a rune that no name has -/
theorem d5t(r:Nat):sem L.env Mf 56 [.int .i32 r] []=some (.bool (!(decide (33≤r)&&decide (r≤126))),[]):=by
 by_cases h1:r<33
 ·have c1:(r:Int)<33:=by omega
  have e:(!(decide (33≤r)&&decide (r≤126)))=true:=by simp;omega
  rw[e]
  (refine sv Tryz.f56 ?_;simp only[Tryz.f56,gS])
  (repeat first|simp only[ww]|(apply xa;simp+decide only[go_sem,c1];rfl;kernel_rfl))
  (apply fqb;simp+decide only[go_sem]<;>rfl)
 ·have c1:¬(r:Int)<33:=by omega
  by_cases h2:126<r
  ·have c2:(126:Int)<r:=by omega
   have e:(!(decide (33≤r)&&decide (r≤126)))=true:=by simp;omega
   rw[e]
   (refine sv Tryz.f56 ?_;simp only[Tryz.f56,gS])
   (repeat first|simp only[ww]|(apply xa;simp+decide only[go_sem,c1,c2];rfl;kernel_rfl))
   (apply fqb;simp+decide only[go_sem]<;>rfl)
  ·have c2:¬(126:Int)<r:=by omega
   have e:(!(decide (33≤r)&&decide (r≤126)))=false:=by simp;omega
   rw[e]
   (refine sv Tryz.f56 ?_;simp only[Tryz.f56,gS])
   (repeat first|simp only[ww]|(apply xa;simp+decide only[go_sem,c1,c2];rfl;kernel_rfl))
   (apply fqb;simp+decide only[go_sem]<;>rfl)
theorem c7n{d:Bool}(H:a08)(r:Nat):a0j L.env d (sem L.env Mf) (.func (.func 56) [] []) [.int .i32 r] H=some (.bool (!(decide (33≤r)&&decide (r≤126))),H,[]):=a0l (by kernel_rfl) (by kernel_rfl) rfl rfl (d5t r) rfl
/- the loop over a string's runes -/
def c6w:AV:=.func (.func 56) [] []
theorem c8l{h:FHeap}{b:Nat}{s:List UInt8}{pos:Nat}(hb:h b=some (.siter s pos))(hl:pos<s.length):b17 h (.ptr b 0 0) true=some (.tuple [.bool true,.int .i64 pos,.int .i32 (Utf8.decode ⟨s.toArray⟩ pos).1],.set b (.siter s (pos+(Utf8.decode ⟨s.toArray⟩ pos).2))):=by unfold b17;simp only[hb,cond_true];rw[show Nat.blt pos s.length=true from by rw[Nat.blt_eq];exact hl];rfl
theorem c8m{h:FHeap}{b:Nat}{s:List UInt8}{pos:Nat}(hb:h b=some (.siter s pos))(hl:¬pos<s.length):b17 h (.ptr b 0 0) true=some (.tuple [.bool false],.none):=by unfold b17;simp only[hb,cond_true];rw[show Nat.blt pos s.length=false from by rw[←Bool.not_eq_true,Nat.blt_eq];exact hl];rfl
theorem c8h{n:Nat}{s:List UInt8}:b4b L.env n 9 (.str s)=some (.ptr n 0 0,.new (.siter s 0)):=by
 have h:L.env.und 9=some .string:=by kernel_rfl
 unfold b4b;rw[h]
theorem e1s(π:Nat→Option Nat)(s:List UInt8)(i:Nat):a0q π (.siter s i) = .siter s i:=rfl
theorem d5h(s:List UInt8)(i:Nat):a39 (some (.siter s i))=[]:=rfl
theorem b83(b:UInt8):(!(decide (33≤b.toNat)&&decide (b.toNat≤126))) = !b1t b:=rfl
def IxP(s:List UInt8)(v:AV):Prop:=(s.all b1t=true∧v = .int .i64 (-1))∨(s.all b1t=false∧∃k:Nat,v = .int .i64 k)
theorem d65(s:List UInt8)(hl:s.length<9223372036854775807):∃r:AV×a08,(IxP s r.1∧r.2=[])∧sem L.env Mf 93 [.str s,c6w,.bool true] []=some r:=by
 unfold c6w
 (refine svE Tryz.f93 ?_;simp only[Tryz.f93,gS])
 (repeat first|simp only[ww]|(apply xa;simp+decide only[go_sem,c8h];rfl;kernel_rfl))
 refine a0p (σ:=Nat) kp93_0 (λi=>[(1,.func (.func 56) [] []),(2,.bool true),(10,.ptr 0 0 0)]) (λi=>[some (.siter s i)]) (λi=>s.length-i) (λi=>i≤s.length∧∀b∈s.take i,b1t b=true) 0 ?_ ⟨Nat.zero_le _,λx h=>by simp at h⟩ ?_
 ·(simp+decide only[go_sem,a09,a05,e1s,d5h]<;>rfl)
 ·rintro i ⟨hi,hno⟩
  have hh:a04 [some (AObj.siter s i)] 0=some (.siter s i):=rfl;by_cases hlt:i<s.length
  ·have hn:=c8l hh hlt;obtain⟨b,hb⟩:∃b,s[i]?=some b:=⟨_,z9e hlt⟩
   have hmem:b∈s:=List.mem_of_getElem? hb;have hod:=λH=>c7n (d:=false) H (Utf8.decode ⟨s.toArray⟩ i).1;by_cases ho:b1t b=true
   ·have hb8:b.toNat<128:=by simp[b1t]at ho;omega
    rw[b8r hb hb8]at hn hod;simp only[b83,ho,Bool.not_true]at hod
    (repeat first|simp only[ww]|(apply xa;simp+decide only[go_sem,hn,hod];rfl;kernel_rfl))
    refine a22 (i+1) ?_ (by omega) ⟨by omega,?_⟩
    ·(simp+decide only[go_sem,a09,a05,e1s,d5h]<;>rfl)
    ·intro x hx;rw[List.take_add_one,hb]at hx;rcases List.mem_append.1 hx with hx|hx
     ·exact hno x hx
     ·simp at hx;rw[hx];exact ho
   ·have hall:s.all b1t=false:=by
     rw[Bool.eq_false_iff];intro h;exact ho (List.all_eq_true.1 h b hmem)
    have hodd:(!(decide (33≤(Utf8.decode ⟨s.toArray⟩ i).1)&&decide ((Utf8.decode ⟨s.toArray⟩ i).1≤126)))=true:=by
     by_cases hb8:b.toNat<128
     ·rw[b8r hb hb8,b83];simpa using ho
     ·have:=c5u hb (by omega);simp;omega
    rw[hodd]at hod
    (repeat first|simp only[ww]|(apply xa;simp+decide only[go_sem,hn,hod];rfl;kernel_rfl))
    (apply a2v;(·simp+decide only[go_sem]<;>rfl))
    exact⟨.inr ⟨hall,i,rfl⟩,rfl⟩
  ·obtain rfl:i=s.length:=by omega
   have hn:=c8m hh hlt
   (repeat first|simp only[ww]|(apply xa;simp+decide only[go_sem,hn];rfl;kernel_rfl))
   (apply a2v;(·simp+decide only[go_sem]<;>rfl))
   refine⟨.inl ⟨?_,rfl⟩,rfl⟩;rw[List.take_of_length_le (Nat.le_refl _)]at hno;exact List.all_eq_true.2 hno
theorem d66(s:List UInt8)(hl:s.length<9223372036854775807):∃r:AV×a08,(IxP s r.1∧r.2=[])∧sem L.env Mf 76 [.str s,c6w] []=some r:=by
 obtain⟨⟨v,H1⟩,⟨h1,h2⟩,h3⟩:=d65 s hl;simp only at h1 h2;subst h2;have hrv:a6k v=[]:=by rcases h1 with ⟨_,rfl⟩|⟨_,k,rfl⟩<;>rfl
 have h:=λd H=>a0l (E:=L.env) (draw:=d) (call:=sem L.env Mf) (g:=93) (fs:=[]) (cs:=[]) (ar:=[.str s,c6w,.bool true]) (H:=H) (by kernel_rfl) (by kernel_rfl) rfl (by rfl) h3 hrv;unfold c6w at h⊢;refine⟨(v,[]),⟨h1,rfl⟩,?_⟩;rcases h1 with ⟨_,rfl⟩|⟨_,k,rfl⟩
 ·(refine sv Tryz.f76 ?_;simp only[Tryz.f76,gS])
  (repeat first|simp only[ww]|(apply xa;simp+decide only[go_sem,h];rfl;kernel_rfl))
  (apply fqb;simp+decide only[go_sem]<;>rfl)
 ·(refine sv Tryz.f76 ?_;simp only[Tryz.f76,gS])
  (repeat first|simp only[ww]|(apply xa;simp+decide only[go_sem,h];rfl;kernel_rfl))
  (apply fqb;simp+decide only[go_sem]<;>rfl)
theorem d77(s:List UInt8)(hl:s.length<9223372036854775807):sem L.env Mf 57 [.str s,c6w] []=some (.bool (!(s.all b1t)),[]):=by
 obtain⟨⟨v,H1⟩,⟨h1,h2⟩,h3⟩:=d66 s hl;simp only at h1 h2;subst h2;have hrv:a6k v=[]:=by rcases h1 with ⟨_,rfl⟩|⟨_,k,rfl⟩<;>rfl
 have h:=λd H=>a0l (E:=L.env) (draw:=d) (call:=sem L.env Mf) (g:=76) (fs:=[]) (cs:=[]) (ar:=[.str s,c6w]) (H:=H) (by kernel_rfl) (by kernel_rfl) rfl (by rfl) h3 hrv;unfold c6w at h⊢;rcases h1 with ⟨ha,rfl⟩|⟨ha,k,rfl⟩
 ·have c1:¬(0:Int)≤ -1:=by omega
  rw[ha]
  (refine sv Tryz.f57 ?_;simp only[Tryz.f57,gS])
  (repeat first|simp only[ww]|(apply xa;simp+decide only[go_sem,h,c1];rfl;kernel_rfl))
  (apply fqb;simp+decide only[go_sem]<;>rfl)
 ·have c1:(0:Int)≤k:=by omega
  rw[ha]
  (refine sv Tryz.f57 ?_;simp only[Tryz.f57,gS])
  (repeat first|simp only[ww]|(apply xa;simp+decide only[go_sem,h,c1];rfl;kernel_rfl))
  (apply fqb;simp+decide only[go_sem]<;>rfl)
theorem c5a(s:List UInt8):sem L.env Mf 27 [.str s] []=some (.bool (a43 s),[]):=by
 cases s with
 |nil=>
  (refine sv Tryz.f27 ?_;simp only[Tryz.f27,gS])
  (repeat first|simp only[ww]|(apply xa;simp+decide only[go_sem];rfl;kernel_rfl))
  (apply fqb;simp+decide only[go_sem,a43]<;>rfl)
 |cons a r=>
  have c0:¬(a::r)=([]:List UInt8):=by simp
  have c3:0<r.length+1:=by omega
  by_cases h1:(a::r).length≤32
  ·have h:=λd H=>a0l (E:=L.env) (draw:=d) (call:=sem L.env Mf) (g:=57) (fs:=[]) (cs:=[]) (ar:=[.str (a::r),c6w]) (H:=H) (by kernel_rfl) (by kernel_rfl) rfl (by rfl) (d77 (a::r) (by omega)) rfl;unfold c6w at h;have c1:((r.length+1:Nat):Int)≤32:=by simp only[List.length_cons]at h1;omega
   by_cases h2:a.toNat=35
   ·have e:a43 (a::r)=false:=by simp[a43,h2]
    rw[e]
    (refine sv Tryz.f27 ?_;simp only[Tryz.f27,gS])
    (repeat first|simp only[ww]|(apply xa;simp+decide only[go_sem,c0,c1,c3,h2,List.getElem?_cons_zero];rfl;kernel_rfl))
    (apply fqb;simp+decide only[go_sem]<;>rfl)
   ·have c2:¬(a.toNat:Int)=35:=by omega
    have e:a43 (a::r)=(a::r).all b1t:=by
     have:Nat.beq a.toNat 35=false:=by rw[←Bool.not_eq_true,Nat.beq_eq];exact h2
     simp only[a43,h1,this,decide_true,Bool.true_and,Bool.not_false]
    rw[e];generalize(a::r).all b1t=q at h⊢
    (refine sv Tryz.f27 ?_;simp only[Tryz.f27,gS])
    (repeat first|simp only[ww]|(apply xa;simp+decide only[go_sem,c0,c1,c3,c2,h,List.getElem?_cons_zero];rfl;kernel_rfl))
    (apply fqb;simp+decide only[go_sem,Bool.not_not]<;>rfl)
  ·have c1:¬((r.length+1:Nat):Int)≤32:=by simp only[List.length_cons]at h1;omega
   have e:a43 (a::r)=false:=by simp[a43];intro h;simp at h1;omega
   rw[e]
   (refine sv Tryz.f27 ?_;simp only[Tryz.f27,gS])
   (repeat first|simp only[ww]|(apply xa;simp+decide only[go_sem,c0,c1];rfl;kernel_rfl))
   (apply fqb;simp+decide only[go_sem]<;>rfl)
theorem b38{d:Bool}(H:a08)(s:List UInt8):a0j L.env d (sem L.env Mf) (.func (.func 27) [] []) [.str s] H=some (.bool (a43 s),H,[]):=a0l (by kernel_rfl) (by kernel_rfl) rfl rfl (c5a s) rfl
end Go.RInst
namespace Go.RInst
open Go.Proofs Go.Ax Go.Pc
variable [PR]
set_option maxRecDepth 100000
def c6x(e:Int):Value:=.iface 31 (.int .i64 e)
theorem noF:∀y∈Mf,b07 L.env y:=by intro y hy;cases hy
theorem d1b(e:Int):sem L.env Mf 62 [.bool true,.int .i64 e] []=some (.tuple [],[]):=by
 (refine sv Tryz.f62 ?_;simp only[Tryz.f62,gS])
 (repeat first|simp only[ww]|(apply xa;simp+decide only[go_sem];rfl;kernel_rfl))
 (apply fqb;simp+decide only[go_sem]<;>rfl)
theorem a1b{d:Bool}(H:a08)(e:Int):a0j L.env d (sem L.env Mf) (.func (.func 62) [] []) [.bool true,.int .i64 e] H=some (.tuple [],H,[]):=a0l (by kernel_rfl) (by kernel_rfl) rfl rfl (d1b e) rfl
theorem c7r(hdr:DrOk L.env)(e:Int):PanF L.env 62 [.bool false,.int .i64 e] [] (c6x e):=by
 refine pf Tryz.f62 ok hdr noF (by kernel_rfl) ?_;simp only[Tryz.f62,gS];refine pcs ?_
 (repeat first|simp only[ww]|(apply xa;simp+decide only[go_sem];rfl;kernel_rfl))
 refine c38 ?_;refine PanG.condT (by simp only[go_sem]) ?_;refine pcr 2 (by(simp+decide only[go_sem,List.take_succ_cons,List.take_zero];rfl)) rfl rfl (d5p (k:=.i64) (n:=e) rfl (by simp only[go_sem]))
end Go.RInst
namespace Go.RInst
open Go.Proofs Go.Ax Go.Pc
variable [PR]
set_option maxRecDepth 100000
/- "signal a on", cut -/
def soT:List UInt8:=[115,105,103,110,97,108,32,97,32,111,110]
def soW:List (List AV):=[[.str [115,105,103,110,97,108]],[.str [97]],[.str [111,110]]]
theorem e0d:sem L.env Mf 23 [.str soT,.str [10]] []=some (.slice 0 0 1 (some 1),[some (.row 1 [[.str soT]])]):=b9o (E:=L.env) a86 b2p 60 (by kernel_rfl)
theorem e0c:sem L.env Mf 23 [.str soT,.str [32]] []=some (.slice 0 0 3 (some 3),[some (.row 1 soW)]):=b9o (E:=L.env) a86 b2p 60 (by kernel_rfl)
theorem e0e:sem L.env Mf 63 [.slice 0 0 3 (some 3),.func (.func 64) [] []] [some (.row 1 soW)]=some (.slice 0 0 3 (some 3),[some (.row 1 soW)]):=b9o (E:=L.env) a86 b2p 60 (by kernel_rfl)
def rd0:Option AObj:=some (.row 4 [[.nilslice,.nilslice,.nilslice,.int .i64 0]])
theorem d4z(hdr:DrOk L.env):PanF L.env 65 [.ptr 0 0 0,.slice 1 0 3 (some 3)] [rd0,some (.row 1 soW)] (c6x 4):=by refine pf Tryz.f65 ok hdr noF (by kernel_rfl) ?_;simp only[Tryz.f65,gS];unfold rd0 soW;refine PanG.seqL ?_;refine pcr 15 (by(simp+decide only[go_sem,List.take_succ_cons,List.take_zero];rfl)) rfl rfl (d14 (g1:=62) (l:=[.bool false,.int .i64 4]) rfl (by simp only[go_sem]) (by simp only[go_sem]) rfl (c7r hdr 4))
/- the table of the readers of a line -/
def a1z:List UInt8:=[115,105,103,110,97,108]
def a2j:List UInt8:=[116,105,109,105,110,103]
def a3v:List UInt8:=[118,101,99,116,111,114]
def fS:AV:=.func (.func 65) [.ptr 0 0 0] []
def fT:AV:=.func (.func 66) [.ptr 0 0 0] []
def fV:AV:=.func (.func 67) [.ptr 0 0 0] []
theorem e3y(a b:Option AObj):a0m L.env (a04 [a,b,some (.map [] [] [] 0)]) 114 (.map 2) (.str [115,105,103,110,97,108]) (.func (.func 65) [.ptr 0 0 0] [])=some (.set 2 (.map [.str a1z] [fS] [0] 1)):=by kernel_rfl
theorem e3x(a b:Option AObj):a0m L.env (a04 [a,b,some (.map [.str a1z] [fS] [0] 1)]) 114 (.map 2) (.str [116,105,109,105,110,103]) (.func (.func 66) [.ptr 0 0 0] [])=some (.set 2 (.map [.str a1z,.str a2j] [fS,fT] [0,1] 2)):=by kernel_rfl
theorem e3w(a b:Option AObj):a0m L.env (a04 [a,b,some (.map [.str a1z,.str a2j] [fS,fT] [0,1] 2)]) 114 (.map 2) (.str [118,101,99,116,111,114]) (.func (.func 67) [.ptr 0 0 0] [])=some (.set 2 (.map [.str a1z,.str a2j,.str a3v] [fS,fT,fV] [0,1,2] 3)):=by kernel_rfl
theorem e3v(a b:Option AObj):a2t L.env (a04 [a,b,some (.map [.str a1z,.str a2j,.str a3v] [fS,fT,fV] [0,1,2] 3)]) 114 (.map 2) (.str [115,105,103,110,97,108]) true=some (.tuple [fS,.bool true]):=by kernel_rfl
theorem d0j(hdr:DrOk L.env):PanF L.env 41 [.ptr 0 0 0,.str soT] [rd0] (c6x 4):=by
 have hs:a0j L.env false (sem L.env Mf) (.func (.func 23) [] []) [.str soT,.str [32]] [rd0]=some (.slice 1 0 3 (some 3),[rd0,some (.row 1 soW)],[]):=a6z (v:=.slice 0 0 3 (some 3)) (L:=[some (.row 1 soW)]) (by kernel_rfl) (by kernel_rfl) rfl rfl e0c;have hd:a0j L.env false (sem L.env Mf) (.func (.func 63) [] []) [.slice 1 0 3 (some 3),.func (.func 64) [] []] [rd0,some (.row 1 soW)]=some (.slice 1 0 3 (some 3),[rd0,some (.row 1 soW)],[1]):=a14 (by kernel_rfl) (by kernel_rfl) rfl (b:=1) (o:=.row 1 soW) (o':=.row 1 soW) rfl rfl (by intro π;rfl) rfl rfl e0e (by intro π;rfl) rfl;unfold rd0 soW at hs hd;refine pf Tryz.f41 ok hdr noF (by kernel_rfl) ?_;simp only[Tryz.f41,gS];unfold rd0;have hl:soT.length=11:=rfl;have hmt:=λd H e=>a1b (d:=d) H e;refine pcs ?_
 (repeat first|simp only[ww]|(apply xa;simp+decide only[go_sem,hmt,hl];rfl;kernel_rfl))
 refine c38 ?_;refine pcs ?_
 (repeat first|simp only[ww]|(apply xa;simp+decide only[go_sem,hs,hd];rfl;kernel_rfl))
 refine c38 ?_;refine pcs ?_
 (repeat first|simp only[ww]|(apply xa;simp+decide only[go_sem];rfl;kernel_rfl))
 refine c38 ?_;refine pcs ?_
 (repeat first|simp only[ww]|(apply xa;simp+decide only[go_sem,e3y,e3x,e3w,e3v];rfl;kernel_rfl))
 refine c38 ?_;refine pcs ?_
 (repeat first|simp only[ww]|(apply xa;simp+decide only[go_sem,hmt];rfl;kernel_rfl))
 refine c38 ?_;refine pcr 2 (by(simp+decide only[go_sem,List.take_succ_cons,List.take_zero];rfl)) rfl rfl (PanOG.noF (c4n (σ:=[0,1]) (l:=[.ptr 0 0 0,.slice 1 0 3 (some 3)]) (l1:=[.ptr 0 0 0,.slice 1 0 3 (some 3)]) (g1:=65) (fs:=[.ptr 0 0 0]) (cs:=[]) (Hs:=[rd0,some (.row 1 soW)]) rfl (by simp only[go_sem];rfl) (by simp only[go_sem]) (by kernel_rfl) (by kernel_rfl) rfl rfl (d4z hdr)))
end Go.RInst
namespace Go.RInst
open Go.Proofs Go.Ax Go.Pc
variable [PR]
set_option maxRecDepth 100000
theorem e05(v:Value)(w:World):(Instr.typeAssert (.iface 31 v) 20 31 true).run Tryz.prog w = .ok (.tuple #[v,.bool true]) w:=by kernel_rfl
theorem d4t(w:World):(Instr.typeAssert .nilIface 20 31 true).run Tryz.prog w = .ok (.tuple #[.int .i64 0,.bool false]) w:=by kernel_rfl
/- the deferred closure, in a panic -/
theorem d79(e:Int)(c0 c1 c2:Value)(cf:Frame)(cs:List Frame)(w:World)(hu:cf.mode = .panicking [{ v:=c6x e,recovered:=false }]){Q:Exit→Act→List Frame→World→Prop}
 (hQ:∀t:Array Value,t.size=15→t.getD 0 undef=c0→t.getD 1 undef=c1→t.getD 2 undef=c2→t.getD 3 undef = .int .i64 e→t.getD 4 undef = .bool true→Q .normal ⟨t,[]⟩ ({ cf with mode:=.panicking [{ v:=c6x e,recovered:=true }] }::cs) w) :
 (match(Tryz.f40.body.getD .skip)with|.seq a b=>a|c=>c).wpSIn Fence.wide 0 Tryz.prog Q { tmps:=#[c0,c1,c2]++Array.replicate 12 undef,defers:=[] } (cf::cs) w:=by
 simp only[Tryz.f40,gS];refine wpSIn_region ?_;simp[wpOpsSIn,go_sem,recoverD,hu,c6x,e05];exact hQ _ (by simp) (by kernel_rfl) (by kernel_rfl) (by kernel_rfl) (by kernel_rfl) (by kernel_rfl)
abbrev clO:Option AObj:=some (.row 3 [[.nilslice,.nilslice,.nilslice]])
abbrev clF(e n:Int):Option AObj:=some (.row 2 [[.int .i64 e,.int .i64 n]])
abbrev clN(n:Int):Option AObj:=some (.row 1 [[.int .i64 n]])
theorem e1g(hdr:DrOk L.env){I K:Nat→Prop}{ρ:PMap}{w:World}(e n:Int)(x y z a b:AV)(r:HRel L.env.G I K ρ (a04 [some (.row 3 [[x,y,z]]),some (.row 2 [[a,b]]),clN n]) w)(hn:NRel ρ 3){c0 c1 c2:Value}
 (ha:VRels I w ρ [.ptr 2 0 0,.ptr 0 0 0,.ptr 1 0 0] [c0,c1,c2]) :
 CallsDIn Fence.wide 0 Tryz.prog 40 #[c0,c1,c2] (.panicking [{ v:=c6x e,recovered:=false }]) w λen u' w'=>en = .returned (.tuple #[])∧u' = .panicking [{ v:=c6x e,recovered:=true }]∧
  ∃I' ρ',(∀c,I c→I' c)∧(∀b,b<3→ρ' b=ρ b)∧Ext I K w w'∧HRel L.env.G I' K ρ' (a04 [clO,clF e n,clN n]) w'∧NRel ρ' 3:=by
 have hfn:L.env.fn 40=some ⟨Tryz.f40.body.getD .skip,15,[]⟩:=by kernel_rfl
 refine callsDIn_of_wpSIn (fn:=Tryz.f40) (c:=Tryz.f40.body.getD .skip) (by kernel_rfl) rfl trivial ?_;intro cf cs hu;have hreg:=λQ=>d79 (Q:=Q) e c0 c1 c2 cf cs w hu;have hcd:=hdr.draws _ _ hfn;have hrf:=hdr.code hfn;simp only[Tryz.f40,gS]at hreg hcd hrf⊢;refine wpSIn_seq (hreg _ ?_);intro t hsz g0 g1 g2 g3 g4;refine wpSIn_of_wpIn rfl ?_;obtain⟨k0,k1,k2⟩:VRel I w ρ (.ptr 2 0 0) c0∧VRel I w ρ (.ptr 0 0 0) c1∧VRel I w ρ (.ptr 1 0 0) c2:=by simp only[VRels]at ha;obtain⟨_,_,e0,h0,_,_,e1,h1,_,_,e2,h2,e3⟩:=ha;cases e0;cases e1;cases e2;exact⟨h0,h1,h2⟩
 let ent:Entry:=⟨I,K,ρ,3,w,[]⟩
 have hnow:Now L.env ent 15 [(0,.ptr 2 0 0),(1,.ptr 0 0 0),(2,.ptr 1 0 0),(3,.int .i64 e),(4,.bool true)] [some (.row 3 [[x,y,z]]),some (.row 2 [[a,b]]),clN n] I ρ ⟨t,[]⟩ w:=by
  refine⟨λ_ h=>h,λ_ _=>rfl,Ext.refl _ _ _,r,hn,⟨hsz,λs=>?_⟩,Nat.le_refl _,Marks.nil⟩;simp only[a2k];by_cases e0:s=0
  ·subst e0;show VRel I w ρ (.ptr 2 0 0) _;rw[g0];exact k0
  by_cases e1:s=1
  ·subst e1;show VRel I w ρ (.ptr 0 0 0) _;rw[g1];exact k1
  by_cases e2:s=2
  ·subst e2;show VRel I w ρ (.ptr 1 0 0) _;rw[g2];exact k2
  by_cases e3:s=3
  ·subst e3;show VRel I w ρ (.int .i64 e) _;rw[g3];simp[VRel]
  by_cases e4:s=4
  ·subst e4;show VRel I w ρ (.bool true) _;rw[g4];simp[VRel]
  have hj:∀k,k≠s→Nat.beq k s=false:=λk hk=>by rw[←Bool.not_eq_true,Nat.beq_eq];exact hk
  simp only[hj 0 (Ne.symm e0),hj 1 (Ne.symm e1),hj 2 (Ne.symm e2),hj 3 (Ne.symm e3),hj 4 (Ne.symm e4),cond_false];simp[VRel]
 refine wpIn_seq (b6m ok hdr noF (ro:=none) (F1:=(10,.bool true)::_) (by simp[b0o]) (by simp+decide only[go_sem];rfl) hnow ?_);intro I1 ρ1 a1 w1 hn1 hd1;show Code.wpIn _ _ _ _ _ _ _;have h10:VRel I1 w1 ρ1 (.bool true) (a1.tmps.getD 10 undef):=hn1.frm.2 10;simp only[VRel]at h10;refine wpIn_cond_true h10 ?_;refine b6m ok hdr noF (ro:=none) (H1:=[clO,clF e n,clN n]) (by simp[b0o]) (by simp+decide only[go_sem];rfl) hn1 ?_;intro I2 ρ2 a2 w2 hn2 hd2;refine⟨hd2.trans hd1,_,rfl,.tuple #[],by simp[results],rfl,rfl,I2,ρ2,hn2.imm,hn2.map,hn2.ext,hn2.rel,hn2.nrel⟩
end Go.RInst
namespace Go.RInst
open Go.Proofs Go.Ax Go.Pc
variable [PR]
set_option maxRecDepth 100000
noncomputable def b55:Code:=match Tryz.f19.body.getD .skip with|.seq _ (.seq _ (.seq _ (.seq _ c)))=>c|c=>c
def rdF(s:List UInt8):Frm:=[(13,.func (.func 40) [] [.ptr 2 0 0,.ptr 0 0 0,.ptr 1 0 0]),(4,.ptr 2 0 0),(10,.bool false),(9,.int .i64 s.length),(8,.str s),(3,.ptr 1 0 0),(2,.ptr 0 0 0),(0,.str s)]
theorem ds2{a b:Code}(h:a1r false (.seq a b)=true):a1r false b=true:=by simp only[a1r,Bool.and_eq_true]at h;exact h.2
/- the three blocks that the closure c80 -/
theorem e4o{I K:Nat→Prop}{ρ:PMap}{w:World}{x y z a b:AV}{n:Int}{R:a08}(hx:a0w [x,y,z]=[])(ha:a0w [a,b]=[])(r:HRel L.env.G I K ρ (a04 (some (.row 3 [[x,y,z]])::some (.row 2 [[a,b]])::clN n::R)) w) :
 HRel L.env.G I K (λb=>if b<3 then ρ b else none) (a04 [some (.row 3 [[x,y,z]]),some (.row 2 [[a,b]]),clN n]) w:=by
 refine r.rename (π:=λb=>if b<3 then some b else none) ?_ ?_ ?_
 ·intro b b' m hb hm;split at hb
  ·rename_i hlt;cases hb;rw[if_pos hlt];exact hm
  ·cases hb
 ·intro b' o' hb
  match b',hb with
  |0,hb=>cases hb;exact⟨0,_,rfl,rfl,by show _=AObj.row 3 [[x,y,z].map (ren _)];rw[a6a _ hx]⟩
  |1,hb=>cases hb;exact⟨1,_,rfl,rfl,by show _=AObj.row 2 [[a,b].map (ren _)];rw[a6a _ ha]⟩
  |2,hb=>cases hb;exact⟨2,_,rfl,rfl,rfl⟩
  |b+3,hb=>cases hb
 ·intro b' m hb;split at hb
  ·exact r.dom b' m hb
  ·cases hb
theorem c7l(hdr:DrOk L.env)(s:List UInt8)(hl:s.length≤1048576)(e n:Int)(x y z a b:AV)(R:a08)(F5:Frm)(hx:a0w [x,y,z]=[])(hab:a0w [a,b]=[])
 (hrest:PanG (cx L.env Mf 3 49 19 0) b55 (rdF s) [clO,some (.row 2 [[.int .i64 0,.int .i64 0]]),clN 0] (c6x e) F5 (some (.row 3 [[x,y,z]])::some (.row 2 [[a,b]])::clN n::R))
 (f2:a2k F5 2 = .ptr 0 0 0)(f3:a2k F5 3 = .ptr 1 0 0){I K:Nat→Prop}{ρ:PMap}{w:World}{cargs:List Value}(rel:HRel L.env.G I K ρ (a04 []) w)(hn:NRel ρ 0)(ha:VRels I w ρ [.str s] cargs) :
 XOf L.env 19 cargs w λen w'=>∃c I' ρ',en = .returned c∧Ret L.env I K ρ 0 w I' ρ' [] w'∧VRel I' w' ρ' (.tuple [.agg [.nilslice,.nilslice,.nilslice],.agg [.int .i64 e,.int .i64 n]]) c:=by
 have hfn:L.env.fn 19=some ⟨Tryz.f19.body.getD .skip,49,[.cell 2 29,.cell 3 56]⟩:=by kernel_rfl
 have hcd:a1r false (Tryz.f19.body.getD .skip)=true:=hdr.draws _ _ hfn;have hrf:=hdr.code hfn;rw[a3m (b4k ok hfn)];refine callsIn_wide.1 (callsIn_of_wp_marks (F:=Fence.wide) (n:=0) (fn:=Tryz.f19) (c:=Tryz.f19.body.getD .skip) (by kernel_rfl) rfl trivial ?_)
 let e0:Entry:=⟨I,K,ρ,0,w,[]⟩
 have hnow:Now L.env e0 49 (a3l 0 [.str s]) [] I ρ { tmps:=cargs.toArray++Array.replicate (49-cargs.toArray.size) undef,defers:=[] } w:=⟨λ_ h=>h,λ_ _=>rfl,Ext.refl _ _ _,rel,hn,a9v (by simp) ha,Nat.le_refl _,Marks.nil⟩
 have c1:¬(1048576:Int)<s.length:=by omega
 simp only[Tryz.f19,gS]at hcd hrf⊢;refine gos ok hdr noF (ro:=none) (e:=e0) (m:=0) rfl hcd hrf ?_ hnow
 (repeat first|simp only[ww]|(apply xa;simp+decide only[go_sem];rfl;kernel_rfl))
 refine d3v ?_;intro I1 ρ1 a1 w1 hn1;refine gos ok hdr noF (ro:=none) (e:=e0) (m:=0) rfl (ds2 hcd) hrf.seq2 ?_ hn1
 (repeat first|simp only[ww]|(apply xa;simp+decide only[go_sem,c1];rfl;kernel_rfl))
 refine d3v ?_;intro I2 ρ2 a2 w2 hn2;refine gos ok hdr noF (ro:=none) (e:=e0) (m:=0) rfl (ds2 (ds2 hcd)) hrf.seq2.seq2 ?_ hn2
 (repeat first|simp only[ww]|(apply xa;simp+decide only[go_sem];rfl;kernel_rfl))
 refine d3v ?_;intro I3 ρ3 a3 w3 hn3;refine wpIn_seq (c5t ok hdr noF rfl rfl rfl rfl rfl rfl (by rfl) hn3 ?_);intro I4 ρ4 a4 w4 cs hn4 hcs;show Code.wpIn _ _ _ _ _ _ _
 let e1:Entry:=⟨I4,K,ρ4,3,w4,⟨.fn (.func 40) cs.toArray,#[]⟩::a4.defers⟩
 have hnow1:Now L.env e1 49 (rdF s) [clO,some (.row 2 [[.int .i64 0,.int .i64 0]]),clN 0] I4 ρ4 { a4 with defers:=⟨.fn (.func 40) cs.toArray,#[]⟩::a4.defers } w4:=⟨λ_ h=>h,λ_ _=>rfl,Ext.refl _ _ _,hn4.rel,hn4.nrel,hn4.frm,Nat.le_refl _,Marks.nil⟩
 refine hrest ok hdr noF (fid:=19) (ro:=none) (e:=e1) rfl (ds2 (ds2 (ds2 (ds2 hcd)))) hrf.seq2.seq2.seq2.seq2 ?_ hnow1;intro I5 ρ5 a5 w5 hn5;obtain⟨rs,q1,q2,q3⟩:=hn5.marks;show LeavesInM _ _ _ _ _ _ a5.defers _ _;rw[q1];refine a6r (by simp) rs w5 q2 (λr hr=>(q3 r hr).2.2) ?_;obtain⟨r6,x6⟩:=b1y hn5.ext (λc hc=>hc.elim (hn4.rel.imm c) (hn4.rel.kept c)) hn5.rel q3;have r7:=e4o hx hab r6;have hρ:∀b,b<3→(if b<3 then ρ5 b else none)=ρ4 b:=λb hb=>by rw[if_pos hb];exact hn5.map b hb
 obtain⟨c0,c1',c2,rfl,k0,k1,k2⟩:∃c0 c1 c2,cs=[c0,c1,c2]∧VRel I4 w4 ρ4 (.ptr 2 0 0) c0∧VRel I4 w4 ρ4 (.ptr 0 0 0) c1∧VRel I4 w4 ρ4 (.ptr 1 0 0) c2:=by have hcs:VRels I4 w4 ρ4 [.ptr 2 0 0,.ptr 0 0 0,.ptr 1 0 0] cs:=hcs;simp only[VRels]at hcs;obtain⟨d0,_,rfl,h0,d1,_,rfl,h1,d2,_,rfl,h2,rfl⟩:=hcs;exact⟨d0,d1,d2,rfl,h0,h1,h2⟩
 have hpt:∀{b:Nat} {c:Value} {I' I'':Nat→Prop} {u u':World} {ρ' ρ'':PMap},VRel I' u ρ' (.ptr b 0 0) c→ρ'' b=ρ' b→VRel I'' u' ρ'' (.ptr b 0 0) c:=by intro b c I' I'' u u' ρ' ρ'' h hb;simp only[VRel]at h⊢;obtain⟨m,hm,rfl⟩:=h;exact⟨m,by rw[hb];exact hm,rfl⟩
 show LeavesInM _ _ _ _ _ _ (⟨.fn (.func 40) #[c0,c1',c2],#[]⟩::a4.defers) _ _;unfold LeavesInM;refine⟨by simp,.inr ⟨λh=>(by cases h),.func 40,#[c0,c1',c2],40,#[c0,c1',c2],rfl,?_,λ_ _=>trivial,?_⟩⟩
 ·show(callFunc 40 (#[] ++ #[c0,c1',c2])).run L.env.P _=_;rw[a2b ok (by kernel_rfl)];simp
 refine CallsDIn.mono (e1g hdr e n x y z a b r7 (λb hb=>if_neg (by omega)) (by simp only[VRels];exact⟨_,_,rfl,hpt k0 (hρ 2 (by omega)),_,_,rfl,hpt k1 (hρ 0 (by omega)),_,_,rfl,hpt k2 (hρ 1 (by omega)),rfl⟩)) ?_
 rintro en u' w7 ⟨rfl,rfl,I7,ρ7,i7,m7,x7,r7',n7⟩
 show LeavesInM _ _ _ _ _ _ a4.defers .returning w7;obtain⟨rs0,p1,p2,p3⟩:=hn4.marks;rw[p1,show e0.base=[]from rfl,List.append_nil];have hk7:∀c,I4 c→w7.heap[c]?=w4.heap[c]?:=λc hc=>(x7.keep c (.inl (hn5.imm c hc))).trans (x6.keep c (.inl hc));have x8:Ext I K w w7:=hn4.ext.trans hn4.imm (x6.trans hn5.imm x7);have p4:∀r∈rs0,I7 r∧w.heap.size≤r∧w7.heap[r]?=some (.deferred (some [])):=λr hr=>⟨i7 r (hn5.imm r (p3 r hr).1),(p3 r hr).2.1,(hk7 r (p3 r hr).1).trans (p3 r hr).2.2⟩
 obtain⟨r9,x9⟩:=b1y x8 (λc hc=>hc.elim (rel.imm c) (rel.kept c)) r7' p4;refine a5r rs0 w7 p2 (λr hr=>(p4 r hr).2.2) ?_;have t2:VRel I5 w5 ρ5 (.ptr 0 0 0) (a5.tmps.getD 2 undef):=by have:=hn5.frm.2 2;rwa [f2]at this
 have t3:VRel I5 w5 ρ5 (.ptr 1 0 0) (a5.tmps.getD 3 undef):=by have:=hn5.frm.2 3;rwa [f3]at this
 have hm5:∀b,b<3→ρ7 b=ρ5 b:=λb hb=>by rw[m7 b hb,if_pos hb]
 obtain⟨c,hrun,hv⟩:=b0l (fn:=Tryz.f19) (tmps:=a5.tmps) (F:=[(2,.ptr 0 0 0),(3,.ptr 1 0 0)]) ok r9 (λs=>by
  simp only[a2k];by_cases e2:s=2
  ·subst e2;exact hpt t2 (hm5 0 (by omega))
  by_cases e3:s=3
  ·subst e3;exact hpt t3 (hm5 1 (by omega))
  have hj:∀k,k≠s→Nat.beq k s=false:=λk hk=>by rw[←Bool.not_eq_true,Nat.beq_eq];exact hk
  simp only[hj 2 (Ne.symm e2),hj 3 (Ne.symm e3),cond_false];simp[VRel]) (vs:=[.agg [.nilslice,.nilslice,.nilslice],.agg [.int .i64 e,.int .i64 n]]) (by show a1m L.env [(2,.ptr 0 0 0),(3,.ptr 1 0 0)] [clO,clF e n,clN n] [.cell 2 29,.cell 3 56]=_;simp+decide only[go_sem])
 refine⟨c,hrun,c,I7,λ_=>none,rfl,⟨λc hc=>i7 c (hn5.imm c (hn4.imm c hc)),λb hb=>by omega,x9,⟨λb o hb=>(by simp[a04]at hb),λb b' m m' hb=>(by simp[a04]at hb),λb m hb=>(by cases hb),r9.imm,r9.kept,r9.apart,r9.glob⟩,λ_ _=>rfl,Nat.le_refl _⟩,?_⟩;have:=VRel.ren (π:=λ_=>none) (ρ':=λ_=>none) (λb b' m h=>by cases h) _ hv
 rwa [a8a _ _ (by rfl)]at this
end Go.RInst
namespace Go.RInst
open Go.Proofs Go.Ax Go.Pc
variable [PR]
set_option maxRecDepth 100000
theorem d0g(hdr:DrOk L.env):∃F5 R,a2k F5 2 = .ptr 0 0 0∧a2k F5 3 = .ptr 1 0 0∧PanG (cx L.env Mf 3 49 19 0) b55 (rdF soT) [clO,some (.row 2 [[.int .i64 0,.int .i64 0]]),clN 0] (c6x 4) F5 (some (.row 3 [[.nilslice,.nilslice,.nilslice]])::some (.row 2 [[.int .i64 0,.int .i64 0]])::clN 1::R):=by
 have hs:a0j L.env false (sem L.env Mf) (.func (.func 23) [] []) [.str soT,.str [10]] [some (.row 3 [[.nilslice,.nilslice,.nilslice]]),some (.row 2 [[.int .i64 0,.int .i64 0]]),some (.row 1 [[.int .i64 0]]),some (.row 4 [[.nilslice,.nilslice,.nilslice,.int .i64 0]])]=some (.slice 4 0 1 (some 1),[some (.row 3 [[.nilslice,.nilslice,.nilslice]]),some (.row 2 [[.int .i64 0,.int .i64 0]]),some (.row 1 [[.int .i64 0]]),some (.row 4 [[.nilslice,.nilslice,.nilslice,.int .i64 0]]),some (.row 1 [[.str soT]])],[]):=a6z (v:=.slice 0 0 1 (some 1)) (L:=[some (.row 1 [[.str soT]])]) (by kernel_rfl) (by kernel_rfl) rfl rfl e0d;refine⟨[(26,.str soT),(25,.ptr 3 0 0),(24,.int .i64 1),(23,.int .i64 0),(7,.str soT),(22,.str soT),(21,.ptr 4 0 0),(20,.bool true),(2,.ptr 0 0 0),(3,.ptr 1 0 0),(4,.ptr 2 0 0),(5,.ptr 3 0 0),(17,.slice 4 0 1 (some 1)),(18,.int .i64 1),(19,.int .i64 0)],[none,some (.row 1 [[.str soT]])],?_,?_,?_⟩
 rotate_left 2
 ·unfold b55 rdF;simp only[Tryz.f19,gS];refine pcs ?_
  (repeat first|simp only[ww]|(apply xa;simp+decide only[go_sem];rfl;kernel_rfl))
  refine c38 ?_;refine PanG.seqL ?_;refine pcs ?_
  (repeat first|simp only[ww]|(apply xa;simp+decide only[go_sem,hs];rfl;kernel_rfl))
  refine c38 ?_;refine PanG.block ?_;refine PanG.loop (λn F H=>n=0∧F=[(2,.ptr 0 0 0),(3,.ptr 1 0 0),(4,.ptr 2 0 0),(5,.ptr 3 0 0),(17,.slice 4 0 1 (some 1)),(18,.int .i64 1),(19,.int .i64 0)]∧H=[some (.row 3 [[.nilslice,.nilslice,.nilslice]]),some (.row 2 [[.int .i64 0,.int .i64 0]]),some (.row 1 [[.int .i64 0]]),some (.row 4 [[.nilslice,.nilslice,.nilslice,.int .i64 0]]),some (.row 1 [[.str soT]])]) 0 ?_ rfl ?_
  ·have hk:=kp19_0;show ∃F1 H1,gcD 3 (L.env.keep 19 0) _ _=some (F1,H1)∧_;rw[hk];refine⟨_,_,?_,rfl,rfl,rfl⟩
   (simp+decide only[go_sem,a09,a05]<;>rfl)
  ·rintro n F1 H1 ⟨rfl,rfl,rfl⟩
   left;show PanG (cx L.env Mf 3 49 19 0) _ _ _ _ _ _;refine pcs ?_
   (repeat first|simp only[ww]|(apply xa;simp+decide only[go_sem];rfl;kernel_rfl))
   refine c38 ?_;refine pcs ?_
   (repeat first|simp only[ww]|(apply xa;simp+decide only[go_sem];rfl;kernel_rfl))
   refine c38 ?_;refine PanG.seqL (PanG.block ?_);show PanG (cx L.env Mf 3 49 19 1) _ _ _ _ _ _;refine pcs ?_
   (repeat first|simp only[ww]|(apply xa;simp+decide only[go_sem];rfl;kernel_rfl))
   refine c38 ?_;refine pcs ?_
   (repeat first|simp only[ww]|(apply xa;simp+decide only[go_sem];rfl;kernel_rfl))
   refine c38 ?_;refine e43 2 (by(simp+decide only[go_sem,List.take_succ_cons,List.take_zero];rfl)) rfl rfl ?_;exact(c4n (σ:=[3]) (l:=[.ptr 3 0 0,.str soT]) (l1:=[.ptr 0 0 0,.str soT]) (g1:=41) (fs:=[]) (cs:=[]) (Hs:=[rd0]) rfl (by simp only[go_sem]) (by simp only[go_sem];rfl) (by kernel_rfl) (by kernel_rfl) rfl rfl (d0j hdr))
 ·rfl
 ·rfl
end Go.RInst
namespace Go.RInst
open Go.Proofs Go.Ax Go.Pc
variable [PR]
set_option maxRecDepth 100000
def soV:AV:=.tuple [.agg [.nilslice,.nilslice,.nilslice],.agg [.int .i64 4,.int .i64 1]]
/- the law's own line, read -/
theorem d0h(hdr:DrOk L.env){I K:Nat→Prop}{ρ:PMap}{w:World}{cargs:List Value}(rel:HRel L.env.G I K ρ (a04 []) w)(hn:NRel ρ 0)(ha:VRels I w ρ [.str soT] cargs) :
 XOf L.env 19 cargs w λen w'=>∃c I' ρ',en = .returned c∧Ret L.env I K ρ 0 w I' ρ' [] w'∧VRel I' w' ρ' soV c:=by
 obtain⟨F5,R,h2,h3,hp⟩:=d0g hdr;exact c7l hdr soT (by decide) 4 1 _ _ _ _ _ R F5 rfl rfl hp h2 h3 rel hn ha
theorem b7z(a:List AV):L.env.prim 19 a=PR.pr a:=by rfl
theorem c1e(hpr:∀a r,PR.pr a=some r→r.2=[]∧∀(I K:Nat→Prop) (ρ:PMap) (w:World) (cargs:List Value),HRel L.env.G I K ρ (a04 []) w→NRel ρ 0→VRels I w ρ a cargs→
 XOf L.env 19 cargs w λen w'=>∃c I' ρ',en = .returned c∧Ret L.env I K ρ 0 w I' ρ' [] w'∧VRel I' w' ρ' r.1 c):a4j L.env 19 (primH L.env 19):=by
 intro a H v H' h I K ρ w cargs rel hn ha;unfold primH at h;rw[b7z]at h;cases hp:PR.pr a with
 |none=>rw[hp]at h;cases h
 |some r=>
  obtain⟨h1,h2⟩:=hpr a r hp;rw[hp]at h;obtain⟨rv,rH⟩:=r;simp only at h1;subst h1;cases H with
  |cons _ _=>cases h
  |nil=>cases h;exact h2 I K ρ w cargs rel hn ha
theorem c0v{a:List AV}{v:AV}(h:PR.pr a=some (v,[])):sem L.env Mf 19 a []=some (v,[]):=by refine a7i (by intro y hy;cases hy) 0 ?_;unfold a5v primH;rw[b7z,h]
end Go.RInst
namespace Go.RInst
open Go.Proofs Go.Ax
@[reducible] def PR0:PR:=⟨λ_=>none⟩
theorem dr0:DrOk (@L PR0).env:=@dr PR0 (@c1e PR0 (λa r h=>by cases h))
end Go.RInst
namespace Go.RInst
open Go.Proofs Go.Ax Go.Pc
variable [PR]
set_option maxRecDepth 100000
theorem c7t(hso:PR.pr [.str soT]=some (soV,[])):sem L.env Mf 14 [] []=some (.bool true,[]):=c46 (E:=L.env) (M:=[⟨19,[.str soT],soV⟩]) (c45 (c0v hso) a86) 60 (g:=14) (args:=[]) (v:=.bool true) (by kernel_rfl)
end Go.RInst
