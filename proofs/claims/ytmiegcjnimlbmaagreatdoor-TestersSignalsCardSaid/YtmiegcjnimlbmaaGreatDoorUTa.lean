/- The closed run of the chapter's examples, by the kernel (printed by mkbase0.py). -/
import Derived.Test.YtmiegcjnimlbmaaGreatDoorUGa
import Derived.Test.YtmiegcjnimlbmaaGreatDoorAxD
import Derived.Test.YtmiegcjnimlbmaaGreatDoorUNe
import Derived.Test.YtmiegcjnimlbmaaGreatDoorPcB
set_option linter.unusedSimpArgs false
set_option linter.unusedVariables false
namespace Go.UInst
open Go.Proofs Go.Ax
set_option maxRecDepth 1000000
def x0:Fact:=⟨171,[.agg [.islice [[.int .u8 0,.nilslice,.int .i64 0,.int .i64 0],[.int .u8 14,.islice [[.int .i64 0]] (some 1),.int .i64 0,.int .i64 0]] (some 2),.islice [[.str [97]],[.str [102]]] (some 2),.nilslice,.islice [[.int .i64 1]] (some 1)],.agg [.int .u8 0,.nilslice,.int .i64 0,.int .i64 0]],.int .i64 0⟩
def x1:Fact:=⟨171,[.agg [.islice [[.int .u8 0,.nilslice,.int .i64 0,.int .i64 0],[.int .u8 14,.islice [[.int .i64 0]] (some 1),.int .i64 0,.int .i64 0]] (some 2),.islice [[.str [97]],[.str [102]]] (some 2),.nilslice,.islice [[.int .i64 1]] (some 1)],.agg [.int .u8 14,.islice [[.int .i64 0]] (some 1),.int .i64 0,.int .i64 0]],.int .i64 0⟩
def x2:Fact:=⟨208,[.str [97]],.bool true⟩
def x3:Fact:=⟨208,[.str [102]],.bool true⟩
def x4:Fact:=⟨134,[.agg [.islice [[.int .u8 0,.nilslice,.int .i64 0,.int .i64 0],[.int .u8 14,.islice [[.int .i64 0]] (some 1),.int .i64 0,.int .i64 0]] (some 2),.islice [[.str [97]],[.str [102]]] (some 2),.nilslice,.islice [[.int .i64 1]] (some 1)]],.int .i64 0⟩
def x5:Fact:=⟨135,[.agg [.islice [[.int .u8 0,.nilslice,.int .i64 0,.int .i64 0],[.int .u8 14,.islice [[.int .i64 0]] (some 1),.int .i64 0,.int .i64 0]] (some 2),.islice [[.str [97]],[.str [102]]] (some 2),.nilslice,.islice [[.int .i64 1]] (some 1)]],.islice [[.islice [[.int .i64 1,.int .i64 0]] (some 1)],[.nilslice]] (some 2)⟩
def x6:Fact:=⟨84,[.agg [.islice [[.int .u8 0,.nilslice,.int .i64 0,.int .i64 0],[.int .u8 14,.islice [[.int .i64 0]] (some 1),.int .i64 0,.int .i64 0]] (some 2),.islice [[.str [97]],[.str [102]]] (some 2),.nilslice,.islice [[.int .i64 1]] (some 1)]],.tuple [.islice [[.int .i64 0],[.int .i64 0]] (some 2),.int .i64 0]⟩
def x7:Fact:=⟨13,[.agg [.islice [[.int .u8 0,.nilslice,.int .i64 0,.int .i64 0],[.int .u8 14,.islice [[.int .i64 0]] (some 1),.int .i64 0,.int .i64 0]] (some 2),.islice [[.str [97]],[.str [102]]] (some 2),.nilslice,.islice [[.int .i64 1]] (some 1)]],.islice [[.int .i64 0]] (some 1)⟩
def x8:Fact:=⟨14,[.str [111,48]],.bool true⟩
def x9:Fact:=⟨11,[.agg [.islice [[.int .u8 0,.nilslice,.int .i64 0,.int .i64 0],[.int .u8 14,.islice [[.int .i64 0]] (some 1),.int .i64 0,.int .i64 0]] (some 2),.islice [[.str [97]],[.str [102]]] (some 2),.nilslice,.islice [[.int .i64 1]] (some 1)]],.tuple [.islice [[.str [97],.int .u8 0],[.str [111,48],.int .u8 1]] (some 2),.int .i64 0]⟩
def x10:Fact:=⟨44,[.agg [.islice [[.int .u8 0,.nilslice,.int .i64 0,.int .i64 0],[.int .u8 14,.islice [[.int .i64 0]] (some 1),.int .i64 0,.int .i64 0]] (some 2),.islice [[.str [97]],[.str [102]]] (some 2),.nilslice,.islice [[.int .i64 1]] (some 1)],.islice [[.islice [[.int .u8 1]] (some 1)],[.islice [[.int .u8 0]] (some 1)],[.islice [[.int .u8 1]] (some 1)]] (some 3),.islice [[.islice [[.int .u8 0]] (some 1)],[.islice [[.int .u8 0]] (some 1)],[.islice [[.int .u8 0]] (some 1)]] (some 3)],.int .i64 0⟩
def x11:Fact:=⟨101,[.int .u64 1,.int .u64 1],.tuple [.int .u64 0,.int .u64 1]⟩
def x12:Fact:=⟨57,[.agg [.islice [[.int .u8 0,.nilslice,.int .i64 0,.int .i64 0],[.int .u8 14,.islice [[.int .i64 0]] (some 1),.int .i64 0,.int .i64 0]] (some 2),.islice [[.str [97]],[.str [102]]] (some 2),.nilslice,.islice [[.int .i64 1]] (some 1)]],.islice [[.int .i64 1]] (some 1)⟩
def x13:Fact:=⟨22,[.agg [.islice [[.int .u8 0,.nilslice,.int .i64 0,.int .i64 0],[.int .u8 14,.islice [[.int .i64 0]] (some 1),.int .i64 0,.int .i64 0]] (some 2),.islice [[.str [97]],[.str [102]]] (some 2),.nilslice,.islice [[.int .i64 1]] (some 1)]],.agg [.islice [[.int .u8 2]] (some 1),.islice [[.int .u8 2]] (some 1)]⟩
def x14:Fact:=⟨58,[.agg [.islice [[.int .u8 0,.nilslice,.int .i64 0,.int .i64 0],[.int .u8 14,.islice [[.int .i64 0]] (some 1),.int .i64 0,.int .i64 0]] (some 2),.islice [[.str [97]],[.str [102]]] (some 2),.nilslice,.islice [[.int .i64 1]] (some 1)]],.tuple [.islice [[.int .i64 0],[.int .i64 1]] (some 2),.int .i64 0]⟩
def x15:Fact:=⟨44,[.agg [.islice [[.int .u8 0,.nilslice,.int .i64 0,.int .i64 0],[.int .u8 14,.islice [[.int .i64 0]] (some 1),.int .i64 0,.int .i64 0]] (some 2),.islice [[.str [97]],[.str [102]]] (some 2),.nilslice,.islice [[.int .i64 1]] (some 1)],.islice [[.islice [[.int .u8 1]] (some 1)],[.islice [[.int .u8 0]] (some 1)],[.islice [[.int .u8 1]] (some 1)]] (some 3),.islice [[.islice [[.int .u8 2]] (some 1)],[.islice [[.int .u8 1]] (some 1)],[.islice [[.int .u8 0]] (some 1)]] (some 3)],.int .i64 0⟩
def x16:Fact:=⟨21,[.agg [.islice [[.int .u8 0,.nilslice,.int .i64 0,.int .i64 0],[.int .u8 14,.islice [[.int .i64 0]] (some 1),.int .i64 0,.int .i64 0]] (some 2),.islice [[.str [97]],[.str [102]]] (some 2),.nilslice,.islice [[.int .i64 1]] (some 1)],.agg [.int .u8 0,.int .i64 1,.int .i64 (-1),.int .u8 0,.int .i64 0]],.int .i64 0⟩
def x17:Fact:=⟨47,[.agg [.str [97],.int .u8 0]],.bool true⟩
def x18:Fact:=⟨48,[.agg [.str [116],.int .i64 100,.int .i64 0,.int .i64 30,.int .i64 60,.int .i64 90]],.bool true⟩
def x19:Fact:=⟨49,[.agg [.int .i64 0,.str [49,88],.int .i64 1],.agg [.islice [[.str [97],.int .u8 0],[.str [111,48],.int .u8 1]] (some 2),.islice [[.str [116],.int .i64 100,.int .i64 0,.int .i64 30,.int .i64 60,.int .i64 90]] (some 1),.islice [[.int .i64 0,.str [49,88],.int .i64 1],[.int .i64 0,.str [48,72],.int .i64 1],[.int .i64 0,.str [49,76],.int .i64 1]] (some 3)]],.bool true⟩
def x20:Fact:=⟨49,[.agg [.int .i64 0,.str [48,72],.int .i64 1],.agg [.islice [[.str [97],.int .u8 0],[.str [111,48],.int .u8 1]] (some 2),.islice [[.str [116],.int .i64 100,.int .i64 0,.int .i64 30,.int .i64 60,.int .i64 90]] (some 1),.islice [[.int .i64 0,.str [49,88],.int .i64 1],[.int .i64 0,.str [48,72],.int .i64 1],[.int .i64 0,.str [49,76],.int .i64 1]] (some 3)]],.bool true⟩
def x21:Fact:=⟨49,[.agg [.int .i64 0,.str [49,76],.int .i64 1],.agg [.islice [[.str [97],.int .u8 0],[.str [111,48],.int .u8 1]] (some 2),.islice [[.str [116],.int .i64 100,.int .i64 0,.int .i64 30,.int .i64 60,.int .i64 90]] (some 1),.islice [[.int .i64 0,.str [49,88],.int .i64 1],[.int .i64 0,.str [48,72],.int .i64 1],[.int .i64 0,.str [49,76],.int .i64 1]] (some 3)]],.bool true⟩
def x22:Fact:=⟨50,[.islice [[.str [97]],[.str [111,48]]] none],.bool false⟩
def x23:Fact:=⟨50,[.islice [[.str [116]]] none],.bool false⟩
def x24:Fact:=⟨18,[.agg [.islice [[.str [97],.int .u8 0],[.str [111,48],.int .u8 1]] (some 2),.islice [[.str [116],.int .i64 100,.int .i64 0,.int .i64 30,.int .i64 60,.int .i64 90]] (some 1),.islice [[.int .i64 0,.str [49,88],.int .i64 1],[.int .i64 0,.str [48,72],.int .i64 1],[.int .i64 0,.str [49,76],.int .i64 1]] (some 3)]],.int .i64 0⟩
def x25:Fact:=⟨67,[.agg [.islice [[.str [97],.int .u8 0],[.str [111,48],.int .u8 1]] (some 2),.islice [[.str [116],.int .i64 100,.int .i64 0,.int .i64 30,.int .i64 60,.int .i64 90]] (some 1),.islice [[.int .i64 0,.str [49,88],.int .i64 1],[.int .i64 0,.str [48,72],.int .i64 1],[.int .i64 0,.str [49,76],.int .i64 1]] (some 3)],.int .i64 3],.tuple [.islice [[.int .i64 0,.str [49,88],.int .i64 1],[.int .i64 0,.str [48,72],.int .i64 1],[.int .i64 0,.str [49,76],.int .i64 1]] (some 3),.int .i64 0]⟩
def x26:Fact:=⟨12,[],.bool true⟩
def M0:List Fact:=[]
theorem h0:∀x∈M0,a0w L.env x:=a0m
theorem k0:a0w L.env x0:=a0g h0 60 (by kernel_rfl)
def M1:List Fact:=x0::M0
theorem h1:∀x∈M1,a0w L.env x:=a0i k0 h0
theorem k1:a0w L.env x1:=a0g h1 60 (by kernel_rfl)
def M2:List Fact:=x1::M1
theorem h2:∀x∈M2,a0w L.env x:=a0i k1 h1
theorem k2:a0w L.env x2:=a0g h2 60 (by kernel_rfl)
def M3:List Fact:=x2::M2
theorem h3:∀x∈M3,a0w L.env x:=a0i k2 h2
theorem k3:a0w L.env x3:=a0g h3 60 (by kernel_rfl)
def M4:List Fact:=x3::M3
theorem h4:∀x∈M4,a0w L.env x:=a0i k3 h3
theorem k4:a0w L.env x4:=a0g h4 60 (by kernel_rfl)
def M5:List Fact:=x4::M4
theorem h5:∀x∈M5,a0w L.env x:=a0i k4 h4
theorem k5:a0w L.env x5:=a0g h5 60 (by kernel_rfl)
def M6:List Fact:=x5::M5
theorem h6:∀x∈M6,a0w L.env x:=a0i k5 h5
theorem k6:a0w L.env x6:=a0g h6 60 (by kernel_rfl)
def M7:List Fact:=x6::M6
theorem h7:∀x∈M7,a0w L.env x:=a0i k6 h6
theorem k7:a0w L.env x7:=a0g h7 60 (by kernel_rfl)
def M8:List Fact:=x7::M7
theorem h8:∀x∈M8,a0w L.env x:=a0i k7 h7
theorem k8:a0w L.env x8:=a0g h8 60 (by kernel_rfl)
def M9:List Fact:=x8::M8
theorem h9:∀x∈M9,a0w L.env x:=a0i k8 h8
theorem k9:a0w L.env x9:=a0g h9 60 (by kernel_rfl)
def M10:List Fact:=x9::M9
theorem h10:∀x∈M10,a0w L.env x:=a0i k9 h9
theorem k10:a0w L.env x10:=a0g h10 60 (by kernel_rfl)
def M11:List Fact:=x10::M10
theorem h11:∀x∈M11,a0w L.env x:=a0i k10 h10
theorem k11:a0w L.env x11:=a0g h11 60 (by kernel_rfl)
def M12:List Fact:=x11::M11
theorem h12:∀x∈M12,a0w L.env x:=a0i k11 h11
theorem k12:a0w L.env x12:=a0g h12 60 (by kernel_rfl)
def M13:List Fact:=x12::M12
theorem h13:∀x∈M13,a0w L.env x:=a0i k12 h12
theorem k13:a0w L.env x13:=a0g h13 60 (by kernel_rfl)
def M14:List Fact:=x13::M13
theorem h14:∀x∈M14,a0w L.env x:=a0i k13 h13
theorem k14:a0w L.env x14:=a0g h14 60 (by kernel_rfl)
def M15:List Fact:=x14::M14
theorem h15:∀x∈M15,a0w L.env x:=a0i k14 h14
theorem k15:a0w L.env x15:=a0g h15 60 (by kernel_rfl)
def M16:List Fact:=x15::M15
theorem h16:∀x∈M16,a0w L.env x:=a0i k15 h15
theorem k16:a0w L.env x16:=a0g h16 60 (by kernel_rfl)
def M17:List Fact:=x16::M16
theorem h17:∀x∈M17,a0w L.env x:=a0i k16 h16
theorem k17:a0w L.env x17:=a0g h17 60 (by kernel_rfl)
def M18:List Fact:=x17::M17
theorem h18:∀x∈M18,a0w L.env x:=a0i k17 h17
theorem k18:a0w L.env x18:=a0g h18 60 (by kernel_rfl)
def M19:List Fact:=x18::M18
theorem h19:∀x∈M19,a0w L.env x:=a0i k18 h18
theorem k19:a0w L.env x19:=a0g h19 60 (by kernel_rfl)
def M20:List Fact:=x19::M19
theorem h20:∀x∈M20,a0w L.env x:=a0i k19 h19
theorem k20:a0w L.env x20:=a0g h20 60 (by kernel_rfl)
def M21:List Fact:=x20::M20
theorem h21:∀x∈M21,a0w L.env x:=a0i k20 h20
theorem k21:a0w L.env x21:=a0g h21 60 (by kernel_rfl)
def M22:List Fact:=x21::M21
theorem h22:∀x∈M22,a0w L.env x:=a0i k21 h21
theorem k22:a0w L.env x22:=a0g h22 60 (by kernel_rfl)
def M23:List Fact:=x22::M22
theorem h23:∀x∈M23,a0w L.env x:=a0i k22 h22
theorem k23:a0w L.env x23:=a0g h23 60 (by kernel_rfl)
def M24:List Fact:=x23::M23
theorem h24:∀x∈M24,a0w L.env x:=a0i k23 h23
theorem k24:a0w L.env x24:=a0g h24 60 (by kernel_rfl)
def M25:List Fact:=x24::M24
theorem h25:∀x∈M25,a0w L.env x:=a0i k24 h24
theorem k25:a0w L.env x25:=a0g h25 60 (by kernel_rfl)
def M26:List Fact:=x25::M25
theorem h26:∀x∈M26,a0w L.env x:=a0i k25 h25
theorem k26:a0w L.env x26:=a0g h26 60 (by kernel_rfl)
theorem lives_call{d:Bool}(H:a03):a0o L.env d (sem L.env Mf) (.func (.func 12) [] []) [] H=some (.bool true,H,[]):=a08 (by kernel_rfl) (by kernel_rfl) rfl rfl k26 rfl
open Go.Proofs Go.Ax Go.Pc
set_option maxRecDepth 100000
/- a circuit a4a memory -/
/- the inputs of a sequence of patterns -/
def inR(q:Pat):List AV:=[sl q.ic (q.ins.map u8R)]
attribute [go_sem] List.getElem?_map
def oS(j:Nat):List UInt8:=[111,UInt8.ofNat (48+j)]
/- names -/
theorem d5z{P:Nat→Prop}(h0:P 0)(h1:P 1)(h2:P 2)(h3:P 3):∀i,i<4→P i:=by
 intro i hi;have:i=0∨i=1∨i=2∨i=3:=by omega
 rcases this with rfl|rfl|rfl|rfl<;>assumption
theorem c7t:∀i:Nat,i<4→sem L.env Mf 14 [.str (a0q i)] []=some (.bool true,[]):=d5z (a0g (E:=L.env) a0m 60 (by kernel_rfl)) (a0g (E:=L.env) a0m 60 (by kernel_rfl)) (a0g (E:=L.env) a0m 60 (by kernel_rfl)) (a0g (E:=L.env) a0m 60 (by kernel_rfl))
theorem c7s:∀i:Nat,i<4→sem L.env Mf 14 [.str (oS i)] []=some (.bool true,[]):=d5z (a0g (E:=L.env) a0m 60 (by kernel_rfl)) (a0g (E:=L.env) a0m 60 (by kernel_rfl)) (a0g (E:=L.env) a0m 60 (by kernel_rfl)) (a0g (E:=L.env) a0m 60 (by kernel_rfl))
theorem c89:∀i:Nat,i<4→sem L.env Mf 36 [.int .i64 i] []=some (.str [UInt8.ofNat (48+i)],[]):=d5z (a0g (E:=L.env) a0m 60 (by kernel_rfl)) (a0g (E:=L.env) a0m 60 (by kernel_rfl)) (a0g (E:=L.env) a0m 60 (by kernel_rfl)) (a0g (E:=L.env) a0m 60 (by kernel_rfl))
theorem c2b{d:Bool}(H:a03)(i:Nat)(hi:i<4):a0o L.env d (sem L.env Mf) (.func (.func 36) [] []) [.int .i64 i] H=some (.str [UInt8.ofNat (48+i)],H,[]):=a08 (by kernel_rfl) (by kernel_rfl) rfl rfl (c89 i hi) rfl
def b7i(s:List UInt8):Prop:=sem L.env Mf 14 [.str s] []=some (.bool true,[])
theorem b28{d:Bool}{s:List UInt8}(h:b7i s)(H:a03):a0o L.env d (sem L.env Mf) (.func (.func 14) [] []) [.str s] H=some (.bool true,H,[]):=a08 (by kernel_rfl) (by kernel_rfl) rfl rfl h rfl
/- signals -/
structure Sgn where
 nm:List UInt8
 dir:Nat
def Sgn.row(s:Sgn):List AV:=[.str s.nm,.int .u8 s.dir]
def b7q:AV:=.func (.func 38) [] []
theorem c7f(s:Sgn)(h:b7i s.nm):sem L.env Mf 38 [.agg s.row] []=some (.bool false,[]):=by
 have hn:=λH=>b28 (d:=false) h H;simp only[Sgn.row]
 (refine sv Tryz.f38 ?_;simp only[Tryz.f38,gS])
 (repeat first|simp only[ww]|(apply xa;simp+decide only[go_sem,hn];rfl;kernel_rfl))
 (apply fqb;simp+decide only[go_sem]<;>rfl)
theorem c1h{d:Bool}(H:a03)(s:Sgn)(h:b7i s.nm):a0o L.env d (sem L.env Mf) (.func (.func 38) [] []) [.agg s.row] H=some (.bool false,H,[]):=a08 (by kernel_rfl) (by kernel_rfl) rfl rfl (c7f s h) rfl
theorem a3y(l:List Sgn):FlatR (l.map Sgn.row):=FlatR.map λ_=>rfl
theorem c2h(cp:Option Nat)(l:List Sgn)(hl:l.length<1000000)(hc:∀v∈l,b7i v.nm) :
 sem L.env Mf 88 [.islice (l.map Sgn.row) cp,b7q] []=some (.int .i64 (-1),[]):=by
 unfold b7q
 (refine sv Tryz.f88 ?_;simp only[Tryz.f88,gS])
 (repeat first|simp only[ww]|(apply xa;simp+decide only[go_sem];rfl;kernel_rfl))
 refine a13 (σ:=Nat) kp88_0 (λi=>[(0,.islice (l.map Sgn.row) cp),(1,b7q),(7,.int .i64 l.length),(8,.int .i64 i)])
  (λ_=>[]) (λi=>l.length-i) (λi=>i≤l.length) 0 ?_ (Nat.zero_le _) ?_
 ·unfold b7q
  (simp+decide only[go_sem,a01,a00,List.length_map]<;>rfl)
 ·intro i hi;unfold b7q;by_cases hlt:i<l.length
  ·obtain⟨x,hx⟩:∃x,l[i]?=some x:=⟨_,z9e hlt⟩
   have c1:(i:Int)<l.length:=by omega
   have hw:=wI1 (n:=i) (by omega);have hcx:=λH=>c1h (d:=false) H x (hc x (List.mem_of_getElem? hx));have hr:x.row=[.str x.nm,.int .u8 x.dir]:=rfl;rw[hr]at hcx
   (repeat first|simp only[ww]|(apply xa;simp+decide only[go_sem,c1,hlt,hx,hr,hw,hcx,List.length_map];rfl;kernel_rfl))
   refine a1k (i+1) ?_ (by omega) (by omega)
   (simp+decide only[go_sem,a01,a00,b7q]<;>rfl)
  ·obtain rfl:i=l.length:=by omega
   have c1:¬(l.length:Int)<l.length:=by omega
   (repeat first|simp only[ww]|(apply xa;simp+decide only[go_sem,c1];rfl;kernel_rfl))
   (apply fqb;simp+decide only[go_sem]<;>rfl)
theorem c0i(cp:Option Nat)(l:List Sgn)(hl:l.length<1000000)(hc:∀v∈l,b7i v.nm) :
 sem L.env Mf 37 [.islice (l.map Sgn.row) cp,b7q] []=some (.bool false,[]):=by
 have h:=λH=>a08 (E:=L.env) (draw:=false) (call:=sem L.env Mf) (g:=88) (fs:=[]) (cs:=[]) (ar:=[.islice (l.map Sgn.row) cp,b7q]) (H:=H) (by kernel_rfl) (by kernel_rfl) rfl (by rfl) (c2h cp l hl hc) rfl;have c1:¬(0:Int)≤ -1:=by omega
 unfold b7q at h⊢
 (refine sv Tryz.f37 ?_;simp only[Tryz.f37,gS])
 (repeat first|simp only[ww]|(apply xa;simp+decide only[go_sem,h,c1];rfl;kernel_rfl))
 (apply fqb;simp+decide only[go_sem]<;>rfl)
theorem c0j{d:Bool}{H:a03}{b:Nat}(l:List Sgn)(hl:l.length<1000000)(hc:∀v∈l,b7i v.nm)(hb:a02 H b=some (.row 2 (l.map Sgn.row))) :
 a0o L.env d (sem L.env Mf) (.func (.func 37) [] []) [.slice b 0 l.length none,b7q] H=some (.bool false,H,List.range H.length):=by
 refine c0n (args:=[.slice b 0 l.length none,b7q]) (args':=[.islice (l.map Sgn.row) none,b7q]) (by kernel_rfl) (by kernel_rfl) rfl ?_ (v:=.bool false) (H1:=[]) (c0i none l hl hc) rfl rfl;have h2:=a39 (m:=0) (d:=a4q (a02 H) 0 11) (a3y l);have h4:((l.map Sgn.row).drop 0).take l.length=l.map Sgn.row:=by rw[List.drop_zero];exact List.take_of_length_le (by simp)
 unfold b7q;simp+decide only[b5o,b0v,a8l,hb,b04,a0a,h4,h2,List.length_map,Nat.zero_add,Nat.le_refl,decide_true,decide_false,cond_true,cond_false];rfl
theorem c4b(n:Nat)(rows:List (List AV))(hf:FlatR rows):sem L.env Mf 39 [.slice 0 0 n none] [some (.row 2 rows)]=some (.slice 0 0 n (some n),[some (.row 2 rows)]):=by
 have h1:=λπ=>a1c π hf
 (refine sv Tryz.f39 ?_;simp only[Tryz.f39,gS])
 (repeat first|simp only[ww]|(apply xa;simp+decide only[go_sem];rfl;kernel_rfl))
 (apply fqb;simp+decide only[go_sem,h1]<;>rfl)
theorem b9l{d:Bool}{H:a03}{b n:Nat}{rows:List (List AV)}(hf:FlatR rows)(hb:a02 H b=some (.row 2 rows)):a0o L.env d (sem L.env Mf) (.func (.func 39) [] []) [.slice b 0 n none] H=some (.slice b 0 n (some n),H,[b]):=by have h:=a8r (E:=L.env) (draw:=d) (call:=sem L.env Mf) (g:=39) (fs:=[]) (cs:=[]) (ar:=[.slice b 0 n none]) (H:=H) (b:=b) (by kernel_rfl) (by kernel_rfl) rfl hb (a24 hf) (FlatO.row hf) rfl (args':=[AV.slice 0 0 n none]) (by simp only[List.nil_append,List.append_nil,List.map_cons,List.map_nil,a6n]) (c4b n rows hf) (FlatO.row hf) (a7d b 0 _ n _);rw[b3b hb]at h;exact h
/- a set of names -/
def stO(l:List (List UInt8)):AObj:=.map (l.map .str) (List.replicate l.length (.bool true)) (List.range l.length) l.length
theorem b6h(s:List UInt8):∀(l:List (List UInt8)) (b:Nat),s∉l→a0x (aeq L.env 6 9) (.str s) (l.map .str) b=some none
 | [],b,_=>rfl
 |t::l,b,h=>by
  simp only[List.mem_cons,not_or]at h;have hne:(s==t)=false:=by rw[beq_eq_false_iff_ne];exact h.1
  simp only[List.map_cons,a0x,eqS,hne,cond_false];exact b6h s l (b+1) h.2
theorem c7a{h:FHeap}{b:Nat}{l:List (List UInt8)}{s:List UInt8}(hb:h b=some (stO l))(hs:s∉l):a3j L.env h 122 (.map b) (.str s) false=some (.bool false):=by
 have hu:L.env.und 122=some (.map 9 4):=by kernel_rfl
 have hk:(b5e L.env 9&&b2h L.env 9 (.str s))=true:=by kernel_rfl
 have hz:L.env.zero 4=some [.bool false]:=by kernel_rfl
 have hd0:(L.env.und 4).map a1j=some false:=by kernel_rfl
 obtain⟨d,hd,hd2⟩:=a05 hd0;have hm:a9c h (.map b)=some (l.map .str,List.replicate l.length (.bool true)):=by simp only[a9c,hb,stO]
 unfold a3j;simp only[hu,hk,cond_true,hz,hd,hm,b6h s l 0 hs,hd2,cond_false]
theorem c67{h:FHeap}{b:Nat}{l:List (List UInt8)}{s:List UInt8}(hb:h b=some (stO l))(hs:s∉l):a12 L.env h 122 (.map b) (.str s) (.bool true)=some (.set b (stO (l++[s]))):=by
 have hu:L.env.und 122=some (.map 9 4):=by kernel_rfl
 have hk:(b5e L.env 9&&b2h L.env 9 (.str s))=true:=by kernel_rfl
 have hp:a6h L.env h 122 (.map b) (.str s)=some (b,l.map .str,List.replicate l.length (.bool true),List.range l.length,l.length,none):=by unfold a6h;simp only[hu,hk,cond_true,hb,stO,b6h s l 0 hs]
 unfold a12;rw[hp];simp only[stO,List.map_append,List.map_cons,List.map_nil,List.length_append,List.length_cons,List.length_nil,List.range_succ,List.replicate_succ']
theorem a72(l:List (List UInt8)):a16 (some (stO l))=[]:=by
 simp only[stO,a16];have h1:∀l:List (List UInt8),a0c (l.map AV.str)=[]:=by intro l;induction l with|nil=>rfl|cons a l ih=>simp[a0c,refs,ih]
 have h2:∀n,a0c (List.replicate n (AV.bool true))=[]:=by intro n;induction n with|zero=>rfl|succ n ih=>simp[List.replicate_succ,a0c,refs,ih]
 rw[h1,h2];rfl
theorem b20(π:Nat→Option Nat)(l:List (List UInt8)):a0h π (stO l)=stO l:=by have h:=a72 l;simp only[stO,a16,List.append_eq_nil_iff]at h;simp only[stO,a0h,a2a π h.1,a2a π h.2]
set_option maxHeartbeats 200000000
structure Tio(c:Cir)(k m:Nat):Prop where
 ins:kinds c.nodes 0=List.range k
 k1:1≤k
 k4:k≤4
 out:c.outs.length=m
 m1:1≤m
 m4:m≤4
def sgI(j:Nat):Sgn:=⟨a0q j,0⟩
def sgO(j:Nat):Sgn:=⟨oS j,1⟩
def sgs(k m:Nat):List Sgn:=(List.range k).map sgI++(List.range m).map sgO
theorem a63(k m:Nat):(sgs k m).length=k+m:=by simp[sgs]
theorem d53(k:Nat):sgs k 0=(List.range k).map sgI:=by simp[sgs]
theorem d0u(k j:Nat):sgs k (j+1)=sgs k j++[sgO j]:=by simp[sgs,List.range_succ]
def nms(k m:Nat):List (List UInt8):=(sgs k m).map Sgn.nm
theorem d5m(k j:Nat):nms k (j+1)=nms k j++[oS j]:=by simp[nms,d0u,sgO]
theorem d1r(i:Nat):nms (i+1) 0=nms i 0++[a0q i]:=by simp[nms,sgs,sgI,List.range_succ]
theorem d0w(i:Nat):sgs (i+1) 0=sgs i 0++[sgI i]:=by simp[sgs,List.range_succ]
theorem c4o{i:Nat}(hi:i<14):a0q i∉nms i 0:=by unfold nms;rw[d53,List.map_map];intro h;obtain⟨j,hj,e⟩:=List.mem_map.1 h;have hj:=List.mem_range.1 hj;have:=b54 (i:=j) (j:=i) (by omega) hi e;omega
theorem d1n{i j:Nat}(hi:i<14)(hj:j<14)(h:oS i=oS j):i=j:=by unfold oS at h;simp only[List.cons.injEq,and_true,true_and]at h;have h1:=congrArg UInt8.toNat h;simp only[UInt8.toNat_ofNat']at h1;omega
theorem c1w{k j:Nat}(hj:j<14):oS j∉nms k j:=by
 unfold nms sgs;rw[List.map_append,List.map_map,List.map_map];intro h;rcases List.mem_append.1 h with h|h
 ·obtain⟨i,_,e⟩:=List.mem_map.1 h;have:a0q i=oS j:=e;unfold a0q oS at this;simp at this
 ·obtain⟨i,hi,e⟩:=List.mem_map.1 h;have hi:=List.mem_range.1 hi;have:=d1n (i:=i) (j:=j) (by omega) hj e;omega
theorem b7p{k m:Nat}(hk:k≤4)(hm:m≤4):∀s∈sgs k m,b7i s.nm:=by
 intro s hs;unfold sgs at hs;rcases List.mem_append.1 hs with h|h
 ·obtain⟨i,hi,rfl⟩:=List.mem_map.1 h;exact c7t i (by have:=List.mem_range.1 hi;omega)
 ·obtain⟨i,hi,rfl⟩:=List.mem_map.1 h;exact c7s i (by have:=List.mem_range.1 hi;omega)
theorem d1o(j:Nat):([111]++[UInt8.ofNat (48+j)]:List UInt8)=oS j:=rfl
theorem b9j(c:Cir)(hc:c.wf){k m:Nat}(ht:Tio c k m):sem L.env Mf 11 [.agg c.enc] []=some (.tuple [.islice ((sgs k m).map Sgn.row) (some (k+m)),.int .i64 0],[]):=by
 obtain⟨t1,t2,t3,t4,t5,t6⟩:=ht;have hn:=hc.len;have hck:=λ(d:Bool) (H:a03)=>b6t (d:=d) H c hc;have hin:=λ(d:Bool) (H:a03)=>b0q (d:=d) H c (by omega);have h15:kinds c.nodes 15=[]:=by unfold kinds a4i;rw[List.filter_eq_nil_iff];intro i hi;have hil:=List.mem_range.1 hi;have:=hc.kind _ (List.getElem_mem hil);rw[a1a (z9e hil)];simp only[decide_eq_true_eq];omega
 have hof:=λ(d:Bool) (X:Option AObj)=>b83 (d:=d) (H:=[X,some (.row 1 [[.int .u8 15]])]) (b:=1) c (k:=15) rfl (by omega) rfl;rw[h15]at hof;have hkn:k≤c.nodes.length:=by have:=b87 c.nodes 0;rw[t1]at this;simpa using this
 have hnm:∀i,i<k→c.names[i]?=some (a0q i):=λi hi=>by rw[hc.names,List.getElem?_map,List.getElem?_range (by omega)];rfl
 have hnl:c.names.length=c.nodes.length:=by rw[hc.names];simp
 obtain⟨r0,e0⟩:=b73 (kinds c.nodes 0);rw[e0,t1]at hin;have hCf:∀π:Nat→Option Nat,a0h π (.row 4 [[sl c.nc (c.nodes.map Nd.enc),sl c.mc (c.names.map b1l),.nilslice,sl c.oc (c.outs.map a0z)]]) = .row 4 [[sl c.nc (c.nodes.map Nd.enc),sl c.mc (c.names.map b1l),.nilslice,sl c.oc (c.outs.map a0z)]]:=λπ=>by simp+decide only[go_sem]
 have hCr:a16 (some (.row 4 [[sl c.nc (c.nodes.map Nd.enc),sl c.mc (c.names.map b1l),.nilslice,sl c.oc (c.outs.map a0z)]]))=[]:=by simp+decide only[go_sem]
 have hie:c51 [] = .nilslice:=rfl;rw[hie]at hof;simp only[Cir.enc]at hck hin hof⊢;have c1:¬((256:Int)<k+m):=by omega
 have hw:=w64 (n:=(k:Int)+m) (by omega) (by omega)
 (refine sv Tryz.f11 ?_;simp only[Tryz.f11,gS])
 (repeat first|simp only[ww]|(apply xa;simp+decide only[go_sem,hck,hof,hin,t4,c1,hw,List.length_map,List.length_range];rfl;kernel_rfl))
 refine a13 (σ:=Nat) kp11_0 (λi=>[(1,.ptr 0 0 0),(6,.map 1),(7,grV 2 ((sgs i 0).map Sgn.row)),(38,sl r0 ((List.range k).map a0z)),(39,.int .i64 k),(40,.int .i64 i)])
  (λi=>some (.row 4 [[sl c.nc (c.nodes.map Nd.enc),sl c.mc (c.names.map b1l),.nilslice,sl c.oc (c.outs.map a0z)]])::some (stO (nms i 0))::grH 2 ((sgs i 0).map Sgn.row)) (λi=>k-i) (λi=>i≤k) 0 ?_ (Nat.zero_le _) ?_
 ·have e1:sgs 0 0=[]:=rfl;have e2:nms 0 0=[]:=rfl;have e3:b0g L.env 122=stO []:=by kernel_rfl
  (simp+decide only[go_sem,a01,a00,e1,e2,List.map_nil,a1z,a20,a72,b20,e3]<;>rfl)<;>rfl
 ·intro i hi;by_cases hlt:i<k
  ·have d1:(i:Int)<k:=by omega
   have hwi:=wI1 (n:=i) (by omega);have hx:=hnm i hlt;have hxl:i<c.names.length:=by omega
   have hri:(List.range k)[i]?=some i:=List.getElem?_range hlt;have hup:=λ(X:Option AObj) (R:a03)=>c67 (h:=a02 (X::some (stO (nms i 0))::R)) (b:=1) (l:=nms i 0) (s:=a0q i) rfl (c4o (by omega));rw[←d1r]at hup;have hl0:=a63 i 0;cases i with
   |zero=>
    have e1:sgs 0 0=[]:=rfl;rw[e1]
    (repeat first|simp only[ww]|(apply xa;simp+decide only[go_sem,d1,hlt,hri,hx,hxl,hwi,hup,List.map_nil,a1z,a20,List.length_map,List.length_range];rfl;kernel_rfl))
    refine a1k 1 ?_ (by omega) (by omega);have e2:(sgs 1 0).map Sgn.row=[[.str (a0q 0),.int .u8 0]]:=rfl;rw[e2]
    (simp+decide only[go_sem,a01,a00,a0t,a0u,a72,b20,List.length_nil]<;>rfl)<;>rfl
   |succ i=>
    have hs:=d0w (i+1);have hsr:(sgs (i+1+1) 0).map Sgn.row=(sgs (i+1) 0).map Sgn.row++[[.str (a0q (i+1)),.int .u8 0]]:=by rw[hs,List.map_append];rfl
    have hne:(sgs (i+1) 0).map Sgn.row≠[]:=by intro e;have:=congrArg List.length e;rw[List.length_map,hl0]at this;simp at this
    have hne2:(sgs (i+1+1) 0).map Sgn.row≠[]:=by rw[hsr];simp
    have hl1:((sgs (i+1) 0).map Sgn.row).length=i+1:=by rw[List.length_map,hl0]
    have hl2:((sgs (i+1+1) 0).map Sgn.row).length=i+1+1:=by rw[List.length_map,a63]
    have hrm:i+1+1≤1000000000:=by omega
    rw[a3u 2 hne,a3v 2 hne,hl1];have hf:=a3y (sgs (i+1) 0);have h3:=a1t (a3y (sgs (i+1+1) 0));have h4:=λπ=>a1c π (a3y (sgs (i+1+1) 0));have hgv:=a3u 2 hne2;have hgh:=a3v 2 hne2;rw[hl2]at hgv;rw[hsr]at h3 h4 hgv hgh;generalize(sgs (i+1) 0).map Sgn.row=R0 at hl1 h3 h4 hsr hgv hgh
    (repeat first|simp only[ww]|(apply xa;simp+decide only[go_sem,d1,hlt,hri,hx,hxl,hwi,hup,hl1,hrm,List.length_map,List.length_range];rfl;kernel_rfl))
    refine a1k (i+1+1) ?_ (by omega) (by omega);rw[hsr,hgv,hgh]
    (simp+decide only[go_sem,a01,a00,a72,b20,h3,h4]<;>rfl)<;>rfl
  ·obtain rfl:i=k:=by omega
   have d1:¬(i:Int)<i:=by omega
   have hne:(sgs i 0).map Sgn.row≠[]:=by intro e;have:=congrArg List.length e;rw[List.length_map,a63]at this;simp at this;omega
   have hl1:((sgs i 0).map Sgn.row).length=i:=by rw[List.length_map,a63];omega
   rw[a3u 2 hne,a3v 2 hne,hl1];have h3:=a1t (a3y (sgs i 0));have h4:=λπ=>a1c π (a3y (sgs i 0))
   (repeat first|simp only[ww]|(apply xa;simp+decide only[go_sem,d1,t4,List.length_map];rfl;kernel_rfl))
   refine a13 (σ:=Nat) kp11_2 (λj=>[(6,.map 0),(7,.slice 1 0 (i+j) none),(62,.int .i64 m),(63,.int .i64 j)])
    (λj=>[some (stO (nms i j)),some (.row 2 ((sgs i j).map Sgn.row))]) (λj=>m-j) (λj=>j≤m) 0 ?_ (Nat.zero_le _) ?_
   ·(simp+decide only[go_sem,a01,a00,a72,b20,h3,h4,Nat.add_zero]<;>rfl)<;>rfl
   ·intro j hj;by_cases hjt:j<m
    ·have d2:(j:Int)<m:=by omega
     have hwj:=wI1 (n:=j) (by omega);have hit:=λ(d:Bool) (H:a03)=>c2b (d:=d) H j (by omega);have hlk:=λ(R:a03)=>c7a (h:=a02 (some (stO (nms i j))::R)) (b:=0) (l:=nms i j) (s:=oS j) rfl (c1w (by omega));have hup:=λ(R:a03)=>c67 (h:=a02 (some (stO (nms i j))::R)) (b:=0) (l:=nms i j) (s:=oS j) rfl (c1w (by omega));rw[←d5m]at hup;have hsr:(sgs i (j+1)).map Sgn.row=(sgs i j).map Sgn.row++[[.str (oS j),.int .u8 1]]:=by rw[d0u,List.map_append];rfl
     have hl2:((sgs i j).map Sgn.row).length=i+j:=by rw[List.length_map,a63]
     have hrm:i+j+1≤1000000000:=by omega
     have h3:=a1t (a3y (sgs i j));have h4:=λπ=>a1c π (a3y (sgs i j));have h5:=a1t (a3y (sgs i (j+1)));have h6:=λπ=>a1c π (a3y (sgs i (j+1)));rw[hsr]at h5 h6;have ho:=d1o j
     (repeat first|simp only[ww]|(apply xa;simp+decide only[go_sem,d2,hit,ho];rfl;kernel_rfl))
     refine a13 (σ:=Nat) kp11_4 (λ_=>[(6,.map 0),(7,.slice 1 0 (i+j) none),(11,.str (oS j)),(62,.int .i64 m),(63,.int .i64 j)])
      (λ_=>[some (stO (nms i j)),some (.row 2 ((sgs i j).map Sgn.row))]) (λ_=>0) (λ_=>True) 0 ?_ trivial ?_
     ·(simp+decide only[go_sem,a01,a00,a72,b20,h3,h4]<;>rfl)<;>rfl
     ·intro _ _;generalize(sgs i j).map Sgn.row=R0 at hl2 h3 h4 h5 h6 hsr
      (repeat first|simp only[ww]|(apply xa;simp+decide only[go_sem,hlk,hup,hl2,hrm,hwj];rfl;kernel_rfl))
      refine a1k (j+1) ?_ (by omega) (by omega);rw[hsr]
      (simp+decide only[go_sem,a01,a00,a72,b20,h5,h6]<;>rfl)<;>rfl
    ·obtain rfl:j=m:=by omega
     have d2:¬(j:Int)<j:=by omega
     have hl2:((sgs i j).map Sgn.row).length=i+j:=by rw[List.length_map,a63]
     have hlen:=a63 i j;have hcs:=λ(d:Bool) (X:Option AObj)=>c0j (d:=d) (H:=[X,some (.row 2 ((sgs i j).map Sgn.row))]) (b:=1) (sgs i j) (by omega) (b7p t3 t6) rfl;have hcl:=λ(d:Bool) (X:Option AObj)=>b9l (d:=d) (H:=[X,some (.row 2 ((sgs i j).map Sgn.row))]) (b:=1) (n:=i+j) (a3y (sgs i j)) rfl;rw[hlen]at hcs;have hfr:=λm d=>a39 (m:=m) (d:=d) (a3y (sgs i j));have htk:((sgs i j).map Sgn.row).take (i+j)=(sgs i j).map Sgn.row:=List.take_of_length_le (by omega);unfold b7q at hcs;generalize(sgs i j).map Sgn.row=R0 at hl2 hcs hcl hfr htk
     (repeat first|simp only[ww]|(apply xa;simp+decide only[go_sem,d2,hcs,hcl];rfl;kernel_rfl))
     (apply fqb;simp+decide only[go_sem,hfr,hl2,htk]<;>rfl)
theorem b4t{d:Bool}(H:a03)(c:Cir)(hc:c.wf){k m:Nat}(ht:Tio c k m):a0o L.env d (sem L.env Mf) (.func (.func 11) [] []) [.agg c.enc] H=some (.tuple [.islice ((sgs k m).map Sgn.row) (some (k+m)),.int .i64 0],H,[]):=a08 (by kernel_rfl) (by kernel_rfl) rfl (by simp only[List.nil_append,List.append_nil];exact a52 c) (b9j c hc ht) rfl
def d7w(k m:Nat):Bool:=(List.range (k+m)).all λj=>(List.range j).all λi=>!((nms k m).getD i []==(nms k m).getD j [])
theorem c5a:((List.range 5).all λk=>(List.range 5).all λm=>d7w k m)=true:=by decide+kernel
theorem d1q{k m i j:Nat}(hk:k≤4)(hm:m≤4)(hij:i<j)(hj:j<k+m){a b:Sgn}(ha:(sgs k m)[i]?=some a)(hb:(sgs k m)[j]?=some b):a.nm≠b.nm:=by
 have h:=c5a;rw[List.all_eq_true]at h;have h:=h k (List.mem_range.2 (by omega));rw[List.all_eq_true]at h;have h:=h m (List.mem_range.2 (by omega));unfold d7w at h;rw[List.all_eq_true]at h;have h:=h j (List.mem_range.2 hj);rw[List.all_eq_true]at h;have h:=h i (List.mem_range.2 hij);have e1:(nms k m).getD i []=a.nm:=by unfold nms;rw[List.getD_eq_getElem?_getD,List.getElem?_map,ha];rfl
 have e2:(nms k m).getD j []=b.nm:=by unfold nms;rw[List.getD_eq_getElem?_getD,List.getElem?_map,hb];rfl
 rw[e1,e2]at h;intro e;rw[e]at h;simp at h
theorem d0v{k m i:Nat}(h:i<k):(sgs k m)[i]?=some (sgI i):=by unfold sgs;rw[List.getElem?_append_left (by simpa using h),List.getElem?_map,List.getElem?_range h];rfl
theorem c7e{k m i:Nat}(h:k≤i)(hi:i<k+m):(sgs k m)[i]?=some (sgO (i-k)):=by unfold sgs;rw[List.getElem?_append_right (by simpa using h),List.getElem?_map,List.length_map,List.length_range,List.getElem?_range (by omega)];rfl
theorem c29(x:CX){i:Nat}(h:i<x.k):a0p x.nodes i=0:=by unfold a0p CX.nodes;rw[List.append_assoc,List.getElem?_append_left (by simpa using h),List.getElem?_replicate,if_pos h];rfl
theorem c2a(x:CX){i:Nat}(h:x.k≤i)(hn:i<x.n):a0p x.nodes i≠0:=by
 have hl:=CX.nodes_len x;obtain⟨nd,hnd⟩:∃nd,x.nodes[i]?=some nd:=⟨_,z9e (by omega)⟩
 rw[a1a hnd];have hnd':=hnd;unfold CX.nodes at hnd';rw[List.append_assoc,List.getElem?_append_right (by simpa using h),List.length_replicate]at hnd';have hmem:=List.mem_of_getElem? hnd';rw[List.mem_append]at hmem;rcases hmem with hm|hm
 ·unfold CX.dn at hm;obtain⟨v,_,rfl⟩:=List.mem_map.1 hm;show(14:Nat)≠0;omega
 ·obtain⟨q,hq⟩:=List.getElem?_of_mem hm;obtain⟨g,hg⟩:=b8q _ _ _ _ _ hq;have hgp:=b0u x.bus g (x.base++((Go.Pc.gN x.bus x.base x.gs).take q).map Nd.kind) (by
   rw[List.length_append,x.base_len];have:0<x.k:=by unfold CX.k;omega
   omega)
  rw[←hg]at hgp;have:=hgp.k1;omega
theorem c4x(x:CX):kinds x.nodes 0=List.range x.k:=by
 unfold kinds a4i;have hl:=CX.nodes_len x;have hk:x.n=x.k+(x.n-x.k):=by unfold CX.n;omega
 rw[hl,hk,List.range_add,List.filter_append];have h1:(List.range x.k).filter (λi=>decide (a0p x.nodes i=0))=List.range x.k:=by rw[List.filter_eq_self];intro i hi;simp[c29 x (List.mem_range.1 hi)]
 have h2:((List.range (x.n-x.k)).map (x.k + ·)).filter (λi=>decide (a0p x.nodes i=0))=[]:=by rw[List.filter_eq_nil_iff];intro i hi;obtain⟨j,hj,rfl⟩:=List.mem_map.1 hi;have:=List.mem_range.1 hj;simp[c2a x (i:=x.k+j) (by omega) (by omega)]
 rw[h1,h2,List.append_nil]
theorem d0q(x:CX):Tio (b1n x).cir (b1n x).k (b1n x).outN.length:=by
 have h1:(b1n x).k=x.inn%4+1:=rfl;have h2:(b1n x).outN.length=(x.outs.take 3).length+1:=by show(CX.outN _).length=_;unfold CX.outN;simp[b1n]
 have h3:(x.outs.take 3).length≤3:=List.length_take_le _ _;exact⟨c4x _,by omega,by omega,rfl,by omega,by omega⟩
structure Ports(x:CX):Prop where
 p0:x.p0<256
 p1:x.p1<256
 p2:x.p2<256
 p3:x.p3<256
theorem d1l(x:CX)(hx:x.ok)(hp:Ports x)(hm:x.mem=true):sem L.env Mf 10 [.agg x.enc] []=some (.agg (a1s x.cirM x.memA),[]):=by
 have h3:x.d<3:=Nat.mod_lt _ (by omega);have h:x.d=0∨x.d=1∨x.d=2:=by omega
 rcases h with h|h|h
 ·exact c80 x hx hp.1 hp.2 hp.3 hp.4 hm h
 ·exact c7z x hx hp.1 hp.2 hp.3 hp.4 hm h
 ·exact c7y x hx hp.1 hp.2 hp.3 hp.4 hm h
theorem b4x(c:Cir)(mm:Mm):a0c (a1s c mm)=[]:=by simp only[go_sem,a1s,a6s]
theorem c4l{d:Bool}(H:a03)(x:CX)(hx:x.ok)(hp:Ports x)(hm:x.mem=true):a0o L.env d (sem L.env Mf) (.func (.func 10) [] []) [.agg x.enc] H=some (.agg (a1s x.cirM x.memA),H,[]):=a08 (by kernel_rfl) (by kernel_rfl) rfl (by simp only[go_sem]) (d1l x hx hp hm) (b4x _ _)
theorem b6j(c:Cir)(mm:Mm)(h:wfM c mm):sem L.env Mf 11 [.agg (a1s c mm)] []=some (.tuple [.nilslice,.int .i64 7],[]):=by
 have hc:=λ(d:Bool) (H:a03)=>b53 (d:=d) H c mm h;simp only[a1s,a6s]at hc⊢
 (refine sv Tryz.f11 ?_;simp only[Tryz.f11,gS])
 (repeat first|simp only[ww]|(apply xa;simp+decide only[go_sem,hc];rfl;kernel_rfl))
 (apply fqb;simp+decide only[go_sem]<;>rfl)
theorem b3a{d:Bool}(H:a03)(c:Cir)(mm:Mm)(h:wfM c mm):a0o L.env d (sem L.env Mf) (.func (.func 11) [] []) [.agg (a1s c mm)] H=some (.tuple [.nilslice,.int .i64 7],H,[]):=a08 (by kernel_rfl) (by kernel_rfl) rfl (by show a0c _++a0c []=[];rw[b4x];rfl) (b6j c mm h) rfl
theorem c09(hlv:∀(d:Bool) H,a0o L.env d (sem L.env Mf) (.func (.func 12) [] []) [] H=some (.bool true,H,[]))(x:CX)(hx:x.ok)(hp:Ports x)(hm:x.mem=true) :
 sem L.env Mf 3 [.agg x.enc] []=some (.bool true,[]):=by
 have hof:=λ(d:Bool) (H:a03)=>c4l (d:=d) H x hx hp hm;have hsg:=λ(d:Bool) (H:a03)=>b3a (d:=d) H x.cirM x.memA (CX.wfM x);generalize x.cirM=c at hof hsg;generalize x.memA=mm at hof hsg;simp only[a1s,a6s,CX.enc]at hof hsg⊢
 (refine sv Tryz.f3 ?_;simp only[Tryz.f3,gS])
 (repeat first|simp only[ww]|(apply xa;simp+decide only[go_sem,hof,hsg,hlv];rfl;kernel_rfl))
 (apply fqb;simp+decide only[go_sem]<;>rfl)
theorem c0a(hlv:∀(d:Bool) H,a0o L.env d (sem L.env Mf) (.func (.func 12) [] []) [] H=some (.bool true,H,[]))(x:CX)(hx:x.ok)(hm:x.mem=false) :
 sem L.env Mf 3 [.agg x.enc] []=some (.bool true,[]):=by
 have hof:=λ(d:Bool) (H:a03)=>c7x (d:=d) H x hx hm;have hc:x.cir.wf:=CX.wf x;have ht:Tio x.cir (b1n x).k (b1n x).outN.length:=d0q x;generalize x.cir=c at hof hc ht;generalize(b1n x).k=k at ht;generalize(b1n x).outN.length=m at ht;have hsg:=λ(d:Bool) (H:a03)=>b4t (d:=d) H c hc ht;have hin:=λ(d:Bool) (H:a03)=>b0q (d:=d) H c (by have:=hc.len;omega);obtain⟨r0,e0⟩:=b73 (kinds c.nodes 0);rw[e0,ht.ins]at hin;obtain⟨t1,t2,t3,t4,t5,t6⟩:=ht;have hn:=hc.len;have hsl:=a63 k m;have hnl:c.names.length=c.nodes.length:=by rw[hc.names];simp
 have hkn:k≤c.nodes.length:=by have h:=b87 c.nodes 0;rw[t1,List.length_range]at h;exact h
 have hCr:a0c [sl c.nc (c.nodes.map Nd.enc),sl c.mc (c.names.map b1l),.nilslice,sl c.oc (c.outs.map a0z)]=[]:=b80 c;have hCf:∀π,[sl c.nc (c.nodes.map Nd.enc),sl c.mc (c.names.map b1l),.nilslice,sl c.oc (c.outs.map a0z)].map (ren π)=[sl c.nc (c.nodes.map Nd.enc),sl c.mc (c.names.map b1l),.nilslice,sl c.oc (c.outs.map a0z)]:=λπ=>a2a π hCr
 suffices hss:∃r:AV×a03,(r=(.bool true,[]))∧sem L.env Mf 3 [.agg x.enc] []=some r by obtain⟨r,rfl,h3⟩:=hss;exact h3
 have hw0:=w64 (n:=(k:Int)+c.outs.length) (by omega) (by omega);have d1:((k+m:Nat):Int)=(k:Int)+c.outs.length:=by omega
 simp only[Cir.enc,CX.enc]at hof hsg hin⊢
 (refine svE Tryz.f3 ?_;simp only[Tryz.f3,gS])
 (repeat first|simp only[ww]|(apply xa;simp+decide only[go_sem,hof,hsg,hin,hsl,hw0,d1,List.length_map,List.length_range];rfl;kernel_rfl))
 refine a13 (σ:=Nat) kp3_0 (λi=>[(3,.ptr 0 0 0),(4,.islice ((sgs k m).map Sgn.row) (some (k+m))),(6,sl r0 ((List.range k).map a0z)),(7,.int .i64 i)])
  (λ_=>[some (.row 4 [[sl c.nc (c.nodes.map Nd.enc),sl c.mc (c.names.map b1l),.nilslice,sl c.oc (c.outs.map a0z)]])]) (λi=>k+m-i) (λi=>i≤k+m) 0 ?_ (Nat.zero_le _) ?_
 ·(simp+decide only[go_sem,a01,a00,hCr,hCf]<;>rfl)<;>rfl
 ·intro i hi;by_cases hlt:i<k+m
  ·have c1:(i:Int)<(k:Int)+c.outs.length:=by omega
   have hls:i<(sgs k m).length:=by omega
   have hwi:=wI1 (n:=i) (by omega);obtain⟨s,hs⟩:∃s,(sgs k m)[i]?=some s:=⟨_,z9e hls⟩
   have hgd:=b7p (k:=k) (m:=m) (by omega) (by omega) s (List.mem_of_getElem? hs);have hpn:=λ(d:Bool) (H:a03)=>b28 (d:=d) hgd H;have hrw:s.row=[.str s.nm,.int .u8 s.dir]:=rfl;have hdir:(i<k∧s.dir=0∧s.nm=a0q i)∨(¬i<k∧s.dir=1):=by
    by_cases hik:i<k
    ·have h:=d0v (m:=m) hik;rw[hs]at h;cases h;exact .inl ⟨hik,rfl,rfl⟩
    ·have h:=c7e (by omega) hlt;rw[hs]at h;cases h;exact .inr ⟨hik,rfl⟩
   have hin2:∀j,j<i→∃a,(sgs k m)[j]?=some a∧a.nm≠s.nm:=λj hj=>by
    obtain⟨a,ha⟩:∃a,(sgs k m)[j]?=some a:=⟨_,z9e (by omega)⟩
    exact⟨a,ha,d1q (by omega) (by omega) hj hlt ha hs⟩
   have hse:(s.nm==s.nm)=true:=beq_self_eq_true _;rcases hdir with ⟨hik,hd0,hnm⟩|⟨hik,hd1⟩
   ·have c2:(i:Int)<k:=by omega
    have hr:(List.range k)[i]?=some i:=List.getElem?_range hik;have hx1:c.names[i]?=some s.nm:=by rw[hc.names,List.getElem?_map,List.getElem?_range (by omega),hnm];rfl
    have hx2:i<c.names.length:=by omega
    (repeat first|simp only[ww]|(apply xa;simp+decide only[go_sem,hse,c1,c2,hls,hs,hpn,hrw,hd0,hik,hr,hx1,hx2,hsl,d1,List.length_map,List.length_range];rfl;kernel_rfl))
    refine a13 (σ:=Nat) kp3_2 (λj=>[(3,.ptr 0 0 0),(4,.islice ((sgs k m).map Sgn.row) (some (k+m))),(6,sl r0 ((List.range k).map a0z)),(7,.int .i64 i),(8,.int .i64 j)])
     (λ_=>[some (.row 4 [[sl c.nc (c.nodes.map Nd.enc),sl c.mc (c.names.map b1l),.nilslice,sl c.oc (c.outs.map a0z)]])]) (λj=>i-j) (λj=>j≤i) 0 ?_ (Nat.zero_le _) ?_
    ·(simp+decide only[go_sem,a01,a00,hCr,hCf]<;>rfl)<;>rfl
    ·intro j hj;by_cases hjl:j<i
     ·obtain⟨a,ha,hne⟩:=hin2 j hjl;have c3:(j:Int)<i:=by omega
      have hjs:j<(sgs k m).length:=by omega
      have hwj:=wI1 (n:=j) (by omega);have hra:a.row=[.str a.nm,.int .u8 a.dir]:=rfl;have hne1:(a.nm==s.nm)=false:=by rw[beq_eq_false_iff_ne];exact hne
      (repeat first|simp only[ww]|(apply xa;simp+decide only[go_sem,c3,hls,hjs,hs,ha,hrw,hra,hne,hne1,hwj,hsl,List.length_map];rfl;kernel_rfl))
      refine a1k (j+1) ?_ (by omega) (by omega)
      (simp+decide only[go_sem,a01,a00,hCr,hCf]<;>rfl)<;>rfl
     ·obtain rfl:j=i:=by omega
      have c3:¬(j:Int)<j:=by omega
      (repeat first|simp only[ww]|(apply xa;simp+decide only[go_sem,c3,hwi];rfl;kernel_rfl))
      refine a1k (j+1) ?_ (by omega) (by omega)
      (simp+decide only[go_sem,a01,a00,hCr,hCf]<;>rfl)<;>rfl
   ·have c2:¬(i:Int)<k:=by omega
    (repeat first|simp only[ww]|(apply xa;simp+decide only[go_sem,c1,c2,hls,hs,hpn,hrw,hd1,hik,hsl,d1,List.length_map,List.length_range];rfl;kernel_rfl))
    refine a13 (σ:=Nat) kp3_2 (λj=>[(3,.ptr 0 0 0),(4,.islice ((sgs k m).map Sgn.row) (some (k+m))),(6,sl r0 ((List.range k).map a0z)),(7,.int .i64 i),(8,.int .i64 j)])
     (λ_=>[some (.row 4 [[sl c.nc (c.nodes.map Nd.enc),sl c.mc (c.names.map b1l),.nilslice,sl c.oc (c.outs.map a0z)]])]) (λj=>i-j) (λj=>j≤i) 0 ?_ (Nat.zero_le _) ?_
    ·(simp+decide only[go_sem,a01,a00,hCr,hCf]<;>rfl)<;>rfl
    ·intro j hj;by_cases hjl:j<i
     ·obtain⟨a,ha,hne⟩:=hin2 j hjl;have c3:(j:Int)<i:=by omega
      have hjs:j<(sgs k m).length:=by omega
      have hwj:=wI1 (n:=j) (by omega);have hra:a.row=[.str a.nm,.int .u8 a.dir]:=rfl;have hne1:(a.nm==s.nm)=false:=by rw[beq_eq_false_iff_ne];exact hne
      (repeat first|simp only[ww]|(apply xa;simp+decide only[go_sem,c3,hls,hjs,hs,ha,hrw,hra,hne,hne1,hwj,hsl,List.length_map];rfl;kernel_rfl))
      refine a1k (j+1) ?_ (by omega) (by omega)
      (simp+decide only[go_sem,a01,a00,hCr,hCf]<;>rfl)<;>rfl
     ·obtain rfl:j=i:=by omega
      have c3:¬(j:Int)<j:=by omega
      (repeat first|simp only[ww]|(apply xa;simp+decide only[go_sem,c3,hwi];rfl;kernel_rfl))
      refine a1k (j+1) ?_ (by omega) (by omega)
      (simp+decide only[go_sem,a01,a00,hCr,hCf]<;>rfl)<;>rfl
  ·obtain rfl:i=k+m:=by omega
   have c1:¬(k:Int)+c.outs.length<(k:Int)+c.outs.length:=by omega
   have c1':¬((k+m:Nat):Int)<((k+m:Nat):Int):=by omega
   (repeat first|simp only[ww]|(apply xa;simp+decide only[go_sem,c1,c1',hsl,d1,hlv,List.length_map];rfl;kernel_rfl))
   refine c8h (vs:=[.bool true]) (r:=(_,_)) (by simp+decide only[go_sem]) ?_ rfl;simp+decide only[go_sem,a42]<;>rfl
theorem lawSig_ok(hlv:∀(d:Bool) H,a0o L.env d (sem L.env Mf) (.func (.func 12) [] []) [] H=some (.bool true,H,[]))(x:CX)(hx:x.ok)(hp:Ports x) :
 sem L.env Mf 3 [.agg x.enc] []=some (.bool true,[]):=by
 cases hm:x.mem with
 |true=>exact c09 hlv x hx hp hm
 |false=>exact c0a hlv x hx hm
end Go.UInst
