/- RPrm: what the primitives of this seat answer. -/
import Derived.Test.YtmbmjfjagololaaGreatDoorAxE
import Derived.Lib.ItoaNum
import Derived.Lib.Join
import Derived.Lib.Strings
import Derived.Shelf.Strings.Count
import Derived.Test.YtmbmjfjagololaaGreatDoorAxC
import Derived.Test.YtmbmjfjagololaaGreatDoorChecked
import Derived.KernelRfl
import Derived.Test.YtmbmjfjagololaaGreatDoorAxD
import Derived.Shelf.Strings.Builder2
import Derived.Lib.AppendZeros
import Derived.Test.YtmbmjfjagololaaGreatDoorProg
import Derived.Shelf.Strings.OnBuilder
import Derived.Shelf.Strconv.Itoa3
import Derived.Shelf.Strings.Search1
import Derived.Shelf.Strings.Search2
import Derived.Shelf.Strings.Search3
import Derived.Shelf.Sort.Plain
import Derived.Shelf.Strings.Prefix
set_option linter.unusedSectionVars false
set_option linter.unusedSimpArgs false
set_option linter.unusedVariables false
namespace Go.RInst
open Go.Ax
def a7d:AV→Bool
 |.nilptr=>true
 |.ptr b i o=>Nat.beq b 0&&(Nat.beq i 0&&Nat.beq o 0)
 |_=>false
def a1h(s:List UInt8):List (List AV):=s.map λb=>[.int .u8 b.toNat]
def unB:List (List AV)→Option (List UInt8)
 | []=>some []
 | [.int .u8 n]::r=>bif decide (0≤n)&&decide (n<256)then(unB r).map (UInt8.ofNat n.toNat :: ·)else none
 |_=>none
theorem b7t:∀s:List UInt8,unB (a1h s)=some s
 | []=>rfl
 |b::s=>by
  have h:=b.toNat_lt;have e:UInt8.ofNat ((b.toNat:Int).toNat)=b:=by simp
  show(bif decide ((0:Int)≤(b.toNat:Int))&&decide ((b.toNat:Int)<256)then(unB (a1h s)).map (UInt8.ofNat ((b.toNat:Int).toNat) :: ·)else none)=_;rw[b7t s,e];have h1:decide ((0:Int)≤(b.toNat:Int))=true:=by simp
  have h2:decide ((b.toNat:Int)<256)=true:=by simp;omega
  rw[h1,h2];rfl
theorem c41:∀{aa:List (List AV)} {s:List UInt8},unB aa=some s→aa=a1h s
 | [],s,h=>by cases h;rfl
 |r::aa,s,h=>by
  unfold unB at h;split at h
  ·rename_i he;cases he
  ·rename_i n r' he;cases he;rw[cond_eq_ite]at h;split at h
   case isFalse=>cases h
   rename_i hc;simp only[b46,e2d]at hc;obtain⟨s',jJ,rfl⟩:=e6g.1 h;rw[c41 jJ];show _=[AV.int .u8 _]::a1h s'
   congr 3
   have:(UInt8.ofNat n.toNat).toNat=n.toNat:=by simp;omega
   rw[this];omega
  ·cases h
def a1r(l:List (List UInt8)):List (List AV):=l.map λs=>[.str s]
def unS:List (List AV)→Option (List (List UInt8))
 | []=>some []
 | [.str s]::r=>(unS r).map (s :: ·)
 |_=>none
theorem b22:∀l:List (List UInt8),unS (a1r l)=some l
 | []=>rfl
 |s::l=>by show(unS (a1r l)).map _=_;rw[b22 l];rfl
theorem b6k:∀{aa:List (List AV)} {l:List (List UInt8)},unS aa=some l→aa=a1r l
 | [],s,h=>by cases h;rfl
 |r::aa,s,h=>by
  unfold unS at h;split at h
  ·rename_i he;cases he
  ·rename_i n r' he;cases he;obtain⟨s',jJ,rfl⟩:=e6g.1 h;rw[b6k jJ];rfl
  ·cases h
def b7g:Nat:=1000000000
def leS:List UInt8→List UInt8→Bool
 | [],_=>true
 |_::_,[]=>false
 |a::r,b::s=>bif Nat.blt a.toNat b.toNat then true else bif Nat.beq a.toNat b.toNat then leS r s else false
def d29(x:List UInt8):List (List UInt8)→List (List UInt8)
 | []=>[x]
 |y::l=>bif leS x y then x::y::l else y::d29 x l
def a45:List (List UInt8)→List (List UInt8)
 | []=>[]
 |x::l=>d29 x (a45 l)
theorem d07:∀x y:List UInt8,leS x y=decide (x≤y)
 | [],y=>by simp[leS]
 |a::r,[]=>by simp[leS]
 |a::r,b::s=>by
  have h:=d07 r s;simp only[leS,cond_eq_ite,e3f,e5a];by_cases h1:a<b
  ·have h2:a.toNat<b.toNat:=UInt8.lt_iff_toNat_lt.1 h1;rw[e3g h2];simp[List.cons_le_cons_iff,h1]
  ·have h2:¬a.toNat<b.toNat:=λh=>h1 (UInt8.lt_iff_toNat_lt.2 h);rw[e2i h2];by_cases h3:a=b
   ·subst h3;rw[e3g rfl,h];simp[List.cons_le_cons_iff]
   ·rw[e2i (λe=>h3 (UInt8.toNat_inj.1 e))];simp[List.cons_le_cons_iff,h1,h3]
theorem b3k(x:List UInt8):∀l,(d29 x l).Perm (x::l)
 | []=>e7b _
 |y::l=>by
  simp only[d29,cond_eq_ite];split
  ·exact e7b _
  ·exact((b3k x l).cons y).trans (List.Perm.swap ..)
theorem a6a:∀l,(a45 l).Perm l
 | []=>e7b _
 |x::l=>(b3k x _).trans ((a6a l).cons x)
theorem b3j(x:List UInt8):∀{l:List (List UInt8)},l.Pairwise (·≤ ·)→(d29 x l).Pairwise (·≤ ·)
 | [],_=>by simp[d29]
 |y::l,h=>by
  have h:=List.pairwise_cons.1 h;simp only[d29,cond_eq_ite,d07,e2d];split
  ·rename_i lG;refine List.pairwise_cons.2 ⟨λz hz=>?_,List.pairwise_cons.2 h⟩;rcases e3b.1 hz with rfl|hz
   ·exact lG
   ·exact List.le_trans lG (h.1 z hz)
  ·rename_i lG;refine List.pairwise_cons.2 ⟨λz hz=>?_,b3j x h.2⟩;rcases e3b.1 ((b3k x l).mem_iff.1 hz)with rfl|hz
   ·exact(List.le_total y z).resolve_right lG
   ·exact h.1 z hz
theorem b1k:∀l,(a45 l).Pairwise (·≤ ·)
 | []=>List.Pairwise.nil
 |x::l=>b3j x (b1k l)
theorem c07(l:List (List UInt8)):l.mergeSort (λx y=>decide (x≤y))=a45 l:=by
 have h1:(l.mergeSort λx y=>decide (x≤y)).Pairwise (·≤ ·):=by have:=List.pairwise_mergeSort (le:=λx y:List UInt8=>decide (x≤y)) (λa b c h1 h2=>by simp at *;exact List.le_trans h1 h2) (λa b=>by simpa using List.le_total a b) l;exact this.imp (λh=>by simpa using h)
 exact List.Perm.eq_of_pairwise (λa b _ _ h1 h2=>List.le_antisymm h1 h2) h1 (b1k l) ((List.mergeSort_perm l _).trans (a6a l).symm)
def wsP:List AV→a08→Option (AV×a08)
 | [b,.str s],[some (.trow t true k [[p,.nilslice]])]=>bif Nat.beq t 82&&Nat.beq k 2&&a7d b && !(a5e b .nilptr)&&a7d p&&Nat.ble s.length b7g then(match s with
  | []=>some (.tuple [.int .i64 0,.nilifc],[some (.trow 82 true 2 [[.ptr 0 0 0,.nilslice]])])
  |_=>some (.tuple [.int .i64 s.length,.nilifc],[some (.trow 82 true 2 [[.ptr 0 0 0,.slice 1 0 s.length none]]),some (.trow 5 false 1 (a1h s))]))else none
 | [b,.str s],[some (.trow t true k [[p,.slice c 0 n none]]),some (.trow u false k1 aa)]=>bif Nat.beq t 82&&Nat.beq k 2&&a7d b && !(a5e b .nilptr)&&a7d p&&Nat.beq c 1&&Nat.beq u 5&&Nat.beq k1 1&&Nat.beq n aa.length&&Nat.ble (n+s.length) b7g then
  bif s.isEmpty then some (.tuple [.int .i64 0,.nilifc],[some (.trow 82 true 2 [[.ptr 0 0 0,.slice 1 0 n none]]),some (.trow 5 false 1 aa)])else some (.tuple [.int .i64 s.length,.nilifc],[some (.trow 82 true 2 [[.ptr 0 0 0,.slice 2 0 (n+s.length) none]]),none,some (.trow 5 false 1 (aa++a1h s))])else none
 |_,_=>none
def d2b:List AV→a08→Option (AV×a08)
 | [b,.int .i64 n],[some (.trow t true k [[.nilptr,.nilslice]])]=>bif Nat.beq t 82&&Nat.beq k 2&&a7d b && !(a5e b .nilptr)&&decide (0<n)&&decide (n≤1000000000)then
  some (.tuple [],[some (.trow 82 true 2 [[.ptr 0 0 0,.slice 1 0 0 none]]),some (.trow 5 false 1 [])])else none
 |_,_=>none
def e1a:List AV→a08→Option (AV×a08)
 | [b],some (.trow t true k [[p,v]])::H=>bif Nat.beq t 82&&Nat.beq k 2&&a7d b && !(a5e b .nilptr)then(match v with
  |.nilslice=>some (.int .i64 0,some (.trow t true k [[p,v]])::H)
  |.slice _ _ n _=>some (.int .i64 n,some (.trow t true k [[p,v]])::H)
  |_=>none)else none
 |_,_=>none
def d5f:List AV→a08→Option (AV×a08)
 | [b],[some (.trow t true k [[p,.nilslice]])]=>bif Nat.beq t 82&&Nat.beq k 2&&a7d b && !(a5e b .nilptr)then some (.str [],[some (.trow t true k [[p,.nilslice]])])else none
 | [b],[some (.trow t true k [[p,.slice c 0 n none]]),some (.trow u false k1 aa)]=>bif Nat.beq t 82&&Nat.beq k 2&&a7d b && !(a5e b .nilptr)&&Nat.beq c 1&&Nat.beq u 5&&Nat.beq k1 1&&Nat.beq n aa.length&&Nat.blt 0 n&&Nat.ble n b7g then
  (unB aa).map λs=>(.str s,[some (.trow t true k [[p,.slice c 0 n none]]),none])else none
 |_,_=>none
def okJ(l:List (List UInt8))(eM:List UInt8):Bool:=Nat.ble l.length b7g&&Nat.ble (Lib.join l eM).length b7g
def c0n:List AV→a08→Option (AV×a08)
 | [.slice c o n cap,.str eM],[some (.row k aa)]=>bif Nat.beq c 0&&Nat.beq k 1&&Nat.ble (o+n) aa.length&&Nat.blt 0 n then(match unS ((aa.drop o).take n)with
  |some l=>bif okJ l eM then some (.str (Lib.join l eM),[some (.row k aa)])else none
  |none=>none)else none
 | [.islice aa cap,.str eM],[]=>bif Nat.blt 0 aa.length then(match unS aa with
  |some l=>bif okJ l eM then some (.str (Lib.join l eM),[])else none
  |none=>none)else none
 |_,_=>none
def c4a:List AV→a08→Option (AV×a08)
 | [.slice c 0 n cap],[some (.row k aa)]=>bif Nat.beq c 0&&Nat.beq k 1&&Nat.beq n aa.length&&Nat.blt 0 n&&Nat.ble n b7g then(unS aa).map λl=>(.tuple [],[some (.row 1 (a1r (a45 l)))])else none
 |_,_=>none
def d4e:List AV→Option (AV×a08)
 | [.int .i64 n]=>bif decide (0≤n)&&decide (n≤1000000000)then some (.str (Lib.itoa n),[])else none
 |_=>none
def d9q:List AV→Option (AV×a08)
 | [.str s,.str [c]]=>some (.int .i64 (Lib.countByte s c),[])
 |_=>none
def d8g:List AV→Option (AV×a08)
 | [.str s,.str p]=>bif Nat.ble s.length b7g then some (.str (Lib.trimSuffix s p),[])else none
 |_=>none
class PR where
 pr:List AV→Option (AV×a08)
def b8y:List AV→Bool
 | [.slice _ _ n _,.str _]=>Nat.beq n 0
 |_=>false
def c4t(pr:List AV→Option (AV×a08))(f:Nat)(a:List AV):Option (AV×a08):=
 bif Nat.beq f 19 then pr a else bif Nat.beq f 37 then d4e a else bif Nat.beq f 73 then d9q a else bif Nat.beq f 30 then d8g a
 else bif Nat.beq f 36||(Nat.beq f 38||(Nat.beq f 39||((Nat.beq f 24 && !b8y a)||(Nat.beq f 70||Nat.beq f 53))))then some (.junk,[none])else none
def d6b(f:Nat)(a:List AV)(H:a08):Option (AV×a08):=bif Nat.beq f 36 then wsP a H else bif Nat.beq f 38 then e1a a H else bif Nat.beq f 39 then d5f a H else bif Nat.beq f 24 then c0n a H else bif Nat.beq f 70 then c4a a H else bif Nat.beq f 53 then d2b a H else none
end Go.RInst
/- The evaluator's tables for this program (printed by mkinst.py). -/
namespace Go.RInst
open Go.Proofs Go.Ax
set_option maxRecDepth 100000
def a8l(k:IntKind)(l:List Int):List AV:=l.map (.int k)
noncomputable def TT:Tab TypeInfo:=(.node (.node (.node (.node (.node (.node (.node (.node .nil 0 Tryz.t0 .nil) 1 Tryz.t1 .nil) 2 Tryz.t2 (.node (.node .nil 3 Tryz.t3 .nil) 4 Tryz.t4 .nil)) 5 Tryz.t5 (.node (.node (.node .nil 6 Tryz.t6 .nil) 7 Tryz.t7 .nil) 8 Tryz.t8 (.node (.node .nil 9 Tryz.t9 .nil) 10 Tryz.t10 .nil))) 11 Tryz.t11 (.node (.node (.node (.node .nil 12 Tryz.t12 .nil) 13 Tryz.t13 .nil) 14 Tryz.t14 (.node (.node .nil 15 Tryz.t15 .nil) 16 Tryz.t16 .nil)) 17 Tryz.t17 (.node (.node (.node .nil 18 Tryz.t18 .nil) 19 Tryz.t19 .nil) 20 Tryz.t20 (.node (.node .nil 21 Tryz.t21 .nil) 22 Tryz.t22 .nil)))) 23 Tryz.t23 (.node (.node (.node (.node (.node .nil 24 Tryz.t24 .nil) 25 Tryz.t25 .nil) 26 Tryz.t26 (.node (.node .nil 27 Tryz.t27 .nil) 28 Tryz.t28 .nil)) 29 Tryz.t29 (.node (.node (.node .nil 30 Tryz.t30 .nil) 31 Tryz.t31 .nil) 32 Tryz.t32 (.node (.node .nil 33 Tryz.t33 .nil) 34 Tryz.t34 .nil))) 35 Tryz.t35 (.node (.node (.node (.node .nil 36 Tryz.t36 .nil) 37 Tryz.t37 .nil) 38 Tryz.t38 (.node (.node .nil 39 Tryz.t39 .nil) 40 Tryz.t40 .nil)) 41 Tryz.t41 (.node (.node (.node .nil 42 Tryz.t42 .nil) 43 Tryz.t43 .nil) 44 Tryz.t44 (.node .nil 45 Tryz.t45 .nil))))) 46 Tryz.t46 (.node (.node (.node (.node (.node (.node .nil 47 Tryz.t47 .nil) 48 Tryz.t48 .nil) 49 Tryz.t49 (.node (.node .nil 50 Tryz.t50 .nil) 51 Tryz.t51 .nil)) 52 Tryz.t52 (.node (.node (.node .nil 53 Tryz.t53 .nil) 54 Tryz.t54 .nil) 55 Tryz.t55 (.node (.node .nil 56 Tryz.t56 .nil) 57 Tryz.t57 .nil))) 58 Tryz.t58 (.node (.node (.node (.node .nil 59 Tryz.t59 .nil) 60 Tryz.t60 .nil) 61 Tryz.t61 (.node (.node .nil 62 Tryz.t62 .nil) 63 Tryz.t63 .nil)) 64 Tryz.t64 (.node (.node (.node .nil 65 Tryz.t65 .nil) 66 Tryz.t66 .nil) 67 Tryz.t67 (.node (.node .nil 68 Tryz.t68 .nil) 69 Tryz.t69 .nil)))) 70 Tryz.t70 (.node (.node (.node (.node (.node .nil 71 Tryz.t71 .nil) 72 Tryz.t72 .nil) 73 Tryz.t73 (.node (.node .nil 74 Tryz.t74 .nil) 75 Tryz.t75 .nil)) 76 Tryz.t76 (.node (.node (.node .nil 77 Tryz.t77 .nil) 78 Tryz.t78 .nil) 79 Tryz.t79 (.node (.node .nil 80 Tryz.t80 .nil) 81 Tryz.t81 .nil))) 82 Tryz.t82 (.node (.node (.node (.node .nil 83 Tryz.t83 .nil) 84 Tryz.t84 .nil) 85 Tryz.t85 (.node (.node .nil 86 Tryz.t86 .nil) 87 Tryz.t87 .nil)) 88 Tryz.t88 (.node (.node (.node .nil 89 Tryz.t89 .nil) 90 Tryz.t90 .nil) 91 Tryz.t91 (.node .nil 92 Tryz.t92 .nil)))))) 93 Tryz.t93 (.node (.node (.node (.node (.node (.node (.node .nil 94 Tryz.t94 .nil) 95 Tryz.t95 .nil) 96 Tryz.t96 (.node (.node .nil 97 Tryz.t97 .nil) 98 Tryz.t98 .nil)) 99 Tryz.t99 (.node (.node (.node .nil 100 Tryz.t100 .nil) 101 Tryz.t101 .nil) 102 Tryz.t102 (.node (.node .nil 103 Tryz.t103 .nil) 104 Tryz.t104 .nil))) 105 Tryz.t105 (.node (.node (.node (.node .nil 106 Tryz.t106 .nil) 107 Tryz.t107 .nil) 108 Tryz.t108 (.node (.node .nil 109 Tryz.t109 .nil) 110 Tryz.t110 .nil)) 111 Tryz.t111 (.node (.node (.node .nil 112 Tryz.t112 .nil) 113 Tryz.t113 .nil) 114 Tryz.t114 (.node (.node .nil 115 Tryz.t115 .nil) 116 Tryz.t116 .nil)))) 117 Tryz.t117 (.node (.node (.node (.node (.node .nil 118 Tryz.t118 .nil) 119 Tryz.t119 .nil) 120 Tryz.t120 (.node (.node .nil 121 Tryz.t121 .nil) 122 Tryz.t122 .nil)) 123 Tryz.t123 (.node (.node (.node .nil 124 Tryz.t124 .nil) 125 Tryz.t125 .nil) 126 Tryz.t126 (.node (.node .nil 127 Tryz.t127 .nil) 128 Tryz.t128 .nil))) 129 Tryz.t129 (.node (.node (.node (.node .nil 130 Tryz.t130 .nil) 131 Tryz.t131 .nil) 132 Tryz.t132 (.node (.node .nil 133 Tryz.t133 .nil) 134 Tryz.t134 .nil)) 135 Tryz.t135 (.node (.node (.node .nil 136 Tryz.t136 .nil) 137 Tryz.t137 .nil) 138 Tryz.t138 (.node .nil 139 Tryz.t139 .nil))))) 140 Tryz.t140 (.node (.node (.node (.node (.node (.node .nil 141 Tryz.t141 .nil) 142 Tryz.t142 .nil) 143 Tryz.t143 (.node (.node .nil 144 Tryz.t144 .nil) 145 Tryz.t145 .nil)) 146 Tryz.t146 (.node (.node (.node .nil 147 Tryz.t147 .nil) 148 Tryz.t148 .nil) 149 Tryz.t149 (.node (.node .nil 150 Tryz.t150 .nil) 151 Tryz.t151 .nil))) 152 Tryz.t152 (.node (.node (.node (.node .nil 153 Tryz.t153 .nil) 154 Tryz.t154 .nil) 155 Tryz.t155 (.node (.node .nil 156 Tryz.t156 .nil) 157 Tryz.t157 .nil)) 158 Tryz.t158 (.node (.node (.node .nil 159 Tryz.t159 .nil) 160 Tryz.t160 .nil) 161 Tryz.t161 (.node (.node .nil 162 Tryz.t162 .nil) 163 Tryz.t163 .nil)))) 164 Tryz.t164 (.node (.node (.node (.node (.node .nil 165 Tryz.t165 .nil) 166 Tryz.t166 .nil) 167 Tryz.t167 (.node (.node .nil 168 Tryz.t168 .nil) 169 Tryz.t169 .nil)) 170 Tryz.t170 (.node (.node (.node .nil 171 Tryz.t171 .nil) 172 Tryz.t172 .nil) 173 Tryz.t173 (.node (.node .nil 174 Tryz.t174 .nil) 175 Tryz.t175 .nil))) 176 Tryz.t176 (.node (.node (.node (.node .nil 177 Tryz.t177 .nil) 178 Tryz.t178 .nil) 179 Tryz.t179 (.node (.node .nil 180 Tryz.t180 .nil) 181 Tryz.t181 .nil)) 182 Tryz.t182 (.node (.node (.node .nil 183 Tryz.t183 .nil) 184 Tryz.t184 .nil) 185 Tryz.t185 (.node .nil 186 Tryz.t186 .nil)))))))
noncomputable def FT:Tab Func:=(.node (.node (.node (.node (.node (.node (.node (.node .nil 0 Tryz.f0 .nil) 1 Tryz.f1 .nil) 2 Tryz.f2 (.node .nil 3 Tryz.f3 .nil)) 4 Tryz.f4 (.node (.node (.node .nil 5 Tryz.f5 .nil) 6 Tryz.f6 .nil) 7 Tryz.f7 (.node .nil 8 Tryz.f8 .nil))) 9 Tryz.f9 (.node (.node (.node (.node .nil 10 Tryz.f10 .nil) 11 Tryz.f11 .nil) 12 Tryz.f12 (.node .nil 13 Tryz.f13 .nil)) 14 Tryz.f14 (.node (.node (.node .nil 15 Tryz.f15 .nil) 16 Tryz.f16 .nil) 17 Tryz.f17 (.node .nil 18 Tryz.f18 .nil)))) 19 Tryz.f19 (.node (.node (.node (.node (.node .nil 20 Tryz.f20 .nil) 21 Tryz.f21 .nil) 22 Tryz.f22 (.node .nil 23 Tryz.f23 .nil)) 24 Tryz.f24 (.node (.node (.node .nil 25 Tryz.f25 .nil) 26 Tryz.f26 .nil) 27 Tryz.f27 (.node .nil 28 Tryz.f28 .nil))) 29 Tryz.f29 (.node (.node (.node (.node .nil 30 Tryz.f30 .nil) 31 Tryz.f31 .nil) 32 Tryz.f32 (.node .nil 33 Tryz.f33 .nil)) 34 Tryz.f34 (.node (.node (.node .nil 35 Tryz.f35 .nil) 36 Tryz.f36 .nil) 37 Tryz.f37 (.node .nil 38 Tryz.f38 .nil))))) 39 Tryz.f39 (.node (.node (.node (.node (.node (.node .nil 40 Tryz.f40 .nil) 41 Tryz.f41 .nil) 42 Tryz.f42 (.node .nil 43 Tryz.f43 .nil)) 44 Tryz.f44 (.node (.node (.node .nil 45 Tryz.f45 .nil) 46 Tryz.f46 .nil) 47 Tryz.f47 (.node .nil 48 Tryz.f48 .nil))) 49 Tryz.f49 (.node (.node (.node (.node .nil 50 Tryz.f50 .nil) 51 Tryz.f51 .nil) 52 Tryz.f52 (.node .nil 53 Tryz.f53 .nil)) 54 Tryz.f54 (.node (.node (.node .nil 55 Tryz.f55 .nil) 56 Tryz.f56 .nil) 57 Tryz.f57 (.node .nil 58 Tryz.f58 .nil)))) 59 Tryz.f59 (.node (.node (.node (.node (.node .nil 60 Tryz.f60 .nil) 61 Tryz.f61 .nil) 62 Tryz.f62 (.node .nil 63 Tryz.f63 .nil)) 64 Tryz.f64 (.node (.node (.node .nil 65 Tryz.f65 .nil) 66 Tryz.f66 .nil) 67 Tryz.f67 (.node .nil 68 Tryz.f68 .nil))) 69 Tryz.f69 (.node (.node (.node (.node .nil 70 Tryz.f70 .nil) 71 Tryz.f71 .nil) 72 Tryz.f72 (.node .nil 73 Tryz.f73 .nil)) 74 Tryz.f74 (.node (.node .nil 75 Tryz.f75 .nil) 76 Tryz.f76 (.node .nil 77 Tryz.f77 .nil)))))) 78 Tryz.f78 (.node (.node (.node (.node (.node (.node (.node .nil 79 Tryz.f79 .nil) 80 Tryz.f80 .nil) 81 Tryz.f81 (.node .nil 82 Tryz.f82 .nil)) 83 Tryz.f83 (.node (.node (.node .nil 84 Tryz.f84 .nil) 85 Tryz.f85 .nil) 86 Tryz.f86 (.node .nil 87 Tryz.f87 .nil))) 88 Tryz.f88 (.node (.node (.node (.node .nil 89 Tryz.f89 .nil) 90 Tryz.f90 .nil) 91 Tryz.f91 (.node .nil 92 Tryz.f92 .nil)) 93 Tryz.f93 (.node (.node (.node .nil 94 Tryz.f94 .nil) 95 Tryz.f95 .nil) 96 Tryz.f96 (.node .nil 97 Tryz.f97 .nil)))) 98 Tryz.f98 (.node (.node (.node (.node (.node .nil 99 Tryz.f99 .nil) 100 Tryz.f100 .nil) 101 Tryz.f101 (.node .nil 102 Tryz.f102 .nil)) 103 Tryz.f103 (.node (.node (.node .nil 104 Tryz.f104 .nil) 105 Tryz.f105 .nil) 106 Tryz.f106 (.node .nil 107 Tryz.f107 .nil))) 108 Tryz.f108 (.node (.node (.node (.node .nil 109 Tryz.f109 .nil) 110 Tryz.f110 .nil) 111 Tryz.f111 (.node .nil 112 Tryz.f112 .nil)) 113 Tryz.f113 (.node (.node .nil 114 Tryz.f114 .nil) 115 Tryz.f115 (.node .nil 116 Tryz.f116 .nil))))) 117 Tryz.f117 (.node (.node (.node (.node (.node (.node .nil 118 Tryz.f118 .nil) 119 Tryz.f119 .nil) 120 Tryz.f120 (.node .nil 121 Tryz.f121 .nil)) 122 Tryz.f122 (.node (.node (.node .nil 123 Tryz.f123 .nil) 124 Tryz.f124 .nil) 125 Tryz.f125 (.node .nil 126 Tryz.f126 .nil))) 127 Tryz.f127 (.node (.node (.node (.node .nil 128 Tryz.f128 .nil) 129 Tryz.f129 .nil) 130 Tryz.f130 (.node .nil 131 Tryz.f131 .nil)) 132 Tryz.f132 (.node (.node (.node .nil 133 Tryz.f133 .nil) 134 Tryz.f134 .nil) 135 Tryz.f135 (.node .nil 136 Tryz.f136 .nil)))) 137 Tryz.f137 (.node (.node (.node (.node (.node .nil 138 Tryz.f138 .nil) 139 Tryz.f139 .nil) 140 Tryz.f140 (.node .nil 141 Tryz.f141 .nil)) 142 Tryz.f142 (.node (.node (.node .nil 143 Tryz.f143 .nil) 144 Tryz.f144 .nil) 145 Tryz.f145 (.node .nil 146 Tryz.f146 .nil))) 147 Tryz.f147 (.node (.node (.node (.node .nil 148 Tryz.f148 .nil) 149 Tryz.f149 .nil) 150 Tryz.f150 (.node .nil 151 Tryz.f151 .nil)) 152 Tryz.f152 (.node (.node .nil 153 Tryz.f153 .nil) 154 Tryz.f154 (.node .nil 155 Tryz.f155 .nil)))))))
def KT:Tab (List (Nat×List Nat)):=(.node (.node (.node (.node (.node (.node .nil 3 [(0,[5,6,8,10,11,12,13,14,15,16]),(2,[5,8,10,11,15,19,20]),(4,[5,8,10,13,23,24,25])] .nil) 4 [(0,[3,4])] (.node .nil 7 [(0,[3,4,6,8,10,16,17]),(2,[3,4,6,8,10,16,17,18]),(4,[4,8,16,19])] .nil)) 9 [(0,[1,2,3,4]),(2,[1,2,3,5]),(4,[1,2,3,11]),(6,[1,2,3,11,12,13,14])] (.node (.node .nil 10 [(0,[5,14,15,16])] .nil) 11 [(1,[8,27,28,29]),(3,[8,10,27,28,29,34,35])] .nil)) 12 [(0,[1,3,10,11,12,30,31,32])] (.node (.node (.node .nil 13 [(0,[1,3,10,11,26,27,28])] .nil) 15 [(0,[1,2,3,4,9,10,11])] .nil) 17 [(0,[1,2,3,4])] (.node (.node .nil 18 [(0,[1,5,6,25,26,27]),(2,[1,5,6,42,43,44]),(4,[1,5,6,12,42,43,44,61,62,63]),(6,[1,5,6,78,79,80])] .nil) 19 [(0,[2,3,4,5,17,18,19])] .nil))) 21 [(0,[1,3,4,29,30,31]),(2,[1,3,4,45,46,47]),(4,[1,3,4,9,61,62,63])] (.node (.node (.node (.node .nil 22 [(0,[3,4,5]),(2,[3,4,5,6,7,8])] .nil) 24 [(1,[0,1,5,39,40,41]),(3,[1,8,63,64,65])] .nil) 25 [(0,[1,3,4]),(2,[1,3,4,5]),(4,[1,3,6]),(6,[1,3,6,7,8]),(8,[1,3,9,10]),(10,[1,3,9,10,11,12])] (.node (.node .nil 26 [(0,[2,5,25,26,27])] .nil) 28 [(0,[0,3])] .nil)) 45 [(0,[0,1,12,13])] (.node (.node (.node .nil 46 [(0,[0,1,12,13])] .nil) 47 [(0,[0,1,12,13])] .nil) 50 [(0,[2,39,40,41])] (.node (.node .nil 52 [(0,[0,1,2,3,9,10])] .nil) 58 [(0,[0,1,2,10,11,52,53]),(2,[0,2,10,11,77,78])] .nil)))) 63 [(0,[0,1,5,6])] (.node (.node (.node (.node (.node .nil 66 [(0,[0,1,4,13,14,15])] .nil) 71 [(0,[0,3]),(2,[0,3,4,5])] (.node .nil 72 [(0,[0,1,6,7])] .nil)) 73 [(0,[0,1,5])] (.node (.node .nil 81 [(0,[0,1,7,8])] .nil) 84 [(0,[0,3,24,25])] .nil)) 87 [(0,[0,1,2,3,8,9])] (.node (.node (.node .nil 89 [(0,[2,4])] .nil) 91 [(1,[0,1,5,6,7,8,9,10])] .nil) 93 [(0,[1,2,10])] (.node (.node .nil 97 [(0,[0,1,4])] .nil) 98 [(0,[0,1,3,4,10,11,12,13,14,15,16]),(2,[0,1,3,4,10,11,12,13,17])] .nil))) 99 [(0,[0,1,7,8])] (.node (.node (.node (.node .nil 100 [(0,[0,1,7,8])] .nil) 103 [(0,[0,1,2,6]),(2,[0,1,2,6,7])] .nil) 104 [(0,[0,6,7,8,9]),(2,[0,6,7,10])] (.node (.node .nil 105 [(0,[0,1,6,7,8,9])] .nil) 107 [(0,[0,6,7])] .nil)) 108 [(0,[0,1,2,7,8]),(2,[0,1,2,7,8]),(4,[0,1,2,7,8,9]),(6,[0,1,2,7,8,10])] (.node (.node (.node .nil 110 [(0,[0,1,9,10]),(2,[0,1,9,10]),(4,[0,1,9,10])] .nil) 111 [(0,[0,1,10,11]),(2,[0,1,10,11]),(4,[0,1,10,11]),(6,[0,1,10,11]),(8,[0,1,10,11])] .nil) 116 [(0,[0,1,5,6,7,8,9]),(2,[0,1,5,6,7,8,10])] (.node (.node .nil 121 [(0,[0,2,3,8])] .nil) 127 [(0,[0,4,5]),(2,[4,6,7,8])] .nil)))))
def EQ:Tab Bool:=(.node (.node (.node (.node (.node (.node .nil 2 true .nil) 3 true (.node .nil 4 true .nil)) 5 true (.node (.node .nil 6 true .nil) 7 true (.node .nil 8 true .nil))) 9 true (.node (.node (.node .nil 10 true .nil) 11 true (.node .nil 12 true .nil)) 15 true (.node (.node .nil 16 true .nil) 17 true .nil))) 20 true (.node (.node (.node (.node .nil 21 true .nil) 31 true (.node .nil 40 true .nil)) 41 true (.node (.node .nil 42 true .nil) 43 true .nil)) 44 true (.node (.node (.node .nil 45 true .nil) 46 true (.node .nil 47 true .nil)) 48 true (.node (.node .nil 55 true .nil) 56 true .nil)))) 70 true (.node (.node (.node (.node (.node .nil 71 true .nil) 76 true (.node .nil 79 true .nil)) 92 true (.node (.node .nil 109 true .nil) 122 true .nil)) 131 true (.node (.node (.node .nil 134 true .nil) 135 true (.node .nil 144 true .nil)) 152 true (.node (.node .nil 154 true .nil) 155 true .nil))) 156 true (.node (.node (.node (.node .nil 157 true .nil) 159 true (.node .nil 160 true .nil)) 162 true (.node (.node .nil 166 true .nil) 170 true .nil)) 173 true (.node (.node (.node .nil 174 true .nil) 177 true (.node .nil 180 true .nil)) 181 true (.node (.node .nil 183 true .nil) 184 true .nil)))))
def GT(g:Nat):Option (List AV):=bif Nat.beq g 3 then some (a8l .u64 [1,10,100,1000,10000,100000,1000000,10000000,100000000,1000000000,10000000000,100000000000,1000000000000,10000000000000,100000000000000,1000000000000000,10000000000000000,100000000000000000,1000000000000000000,10000000000000000000])else none
noncomputable def L[PR]:Laid:={ P:=Tryz.prog,T:=TT,F:=FT,keep:=KT,eqs:=EQ,G:=GT,thaw:=λg=>decide (g=23∨g=52∨g=69∨g=32∨g=35∨g=41∨g=65∨g=66∨g=67),ro:=λg=>false,ext:=λf=>Nat.beq f 102,lend:=λg=>false,prim:=c4t PR.pr,primH:=d6b,bT:=82 }
variable [PR]
theorem d0w:∀i x,TT.get i=some x→Tryz.prog.types[i]?=some x:=b5u (n:=187) (l:=Tryz.types.toList) (by kernel_rfl) (by kernel_rfl)
theorem d2e:∀i x,FT.get i=some x→Tryz.prog.funcs[i]?=some x:=b5u (n:=156) (l:=Tryz.funcs.toList) (by kernel_rfl) (by kernel_rfl)
theorem laidOk:LaidOk L:={
 types:=d0w
 funcs:=d2e
 shape:=by kernel_rfl
 names:=by kernel_rfl
 eqs:=by kernel_rfl
 ext:=λf h=>by
  have h:Nat.beq f 102=true:=h;have:f=102:=by simpa using h
  subst this;exact⟨Tryz.f102,by kernel_rfl,by kernel_rfl,by kernel_rfl,by kernel_rfl,by kernel_rfl⟩
 mixed:=by kernel_rfl
 draws:=by kernel_rfl
 yid:=by kernel_rfl
 rf:=by kernel_rfl}
theorem ok:EnvOk L.env:=laidOk.envOk
@[go_sem] theorem d71:L.env.G 3=some (a8l .u64 [1,10,100,1000,10000,100000,1000000,10000000,100000000,1000000000,10000000000,100000000000,1000000000000,10000000000000,100000000000000,1000000000000000,10000000000000000,100000000000000000,1000000000000000000,10000000000000000000]):=by kernel_rfl
attribute [go_sem] a8l
end Go.RInst
/- Type facts (printed by AxTypes). -/
namespace Go.RInst
open Go.Proofs Go.Ax
variable [PR]
@[go_sem] theorem e6b:L.env.bT=82:=by rfl
@[go_sem] theorem roF(g:FuncId):L.env.ro g=false:=by rfl
@[go_sem] theorem e41(g:FuncId):L.env.thaw g=decide (g=23∨g=52∨g=69∨g=32∨g=35∨g=41∨g=65∨g=66∨g=67):=by rfl
@[go_sem] theorem kp18_0:L.env.keep 18 0=[1,5,6,25,26,27]:=by kernel_rfl
@[go_sem] theorem kp18_2:L.env.keep 18 2=[1,5,6,42,43,44]:=by kernel_rfl
@[go_sem] theorem kp18_4:L.env.keep 18 4=[1,5,6,12,42,43,44,61,62,63]:=by kernel_rfl
@[go_sem] theorem kp18_6:L.env.keep 18 6=[1,5,6,78,79,80]:=by kernel_rfl
@[go_sem] theorem kp19_0:L.env.keep 19 0=[2,3,4,5,17,18,19]:=by kernel_rfl
@[go_sem] theorem kp21_0:L.env.keep 21 0=[1,3,4,29,30,31]:=by kernel_rfl
@[go_sem] theorem kp21_2:L.env.keep 21 2=[1,3,4,45,46,47]:=by kernel_rfl
@[go_sem] theorem kp21_4:L.env.keep 21 4=[1,3,4,9,61,62,63]:=by kernel_rfl
@[go_sem] theorem kp22_0:L.env.keep 22 0=[3,4,5]:=by kernel_rfl
@[go_sem] theorem kp22_2:L.env.keep 22 2=[3,4,5,6,7,8]:=by kernel_rfl
@[go_sem] theorem kp45_0:L.env.keep 45 0=[0,1,12,13]:=by kernel_rfl
@[go_sem] theorem kp46_0:L.env.keep 46 0=[0,1,12,13]:=by kernel_rfl
@[go_sem] theorem kp47_0:L.env.keep 47 0=[0,1,12,13]:=by kernel_rfl
@[go_sem] theorem kp50_0:L.env.keep 50 0=[2,39,40,41]:=by kernel_rfl
@[go_sem] theorem kp52_0:L.env.keep 52 0=[0,1,2,3,9,10]:=by kernel_rfl
@[go_sem] theorem kp63_0:L.env.keep 63 0=[0,1,5,6]:=by kernel_rfl
@[go_sem] theorem kp66_0:L.env.keep 66 0=[0,1,4,13,14,15]:=by kernel_rfl
@[go_sem] theorem kp71_0:L.env.keep 71 0=[0,3]:=by kernel_rfl
@[go_sem] theorem kp81_0:L.env.keep 81 0=[0,1,7,8]:=by kernel_rfl
@[go_sem] theorem kp84_0:L.env.keep 84 0=[0,3,24,25]:=by kernel_rfl
@[go_sem] theorem kp93_0:L.env.keep 93 0=[1,2,10]:=by kernel_rfl
@[go_sem] theorem kp99_0:L.env.keep 99 0=[0,1,7,8]:=by kernel_rfl
@[go_sem] theorem kp100_0:L.env.keep 100 0=[0,1,7,8]:=by kernel_rfl
@[go_sem] theorem by3:L.env.bytes 3=8:=by kernel_rfl
@[go_sem] theorem by9:L.env.bytes 9=16:=by kernel_rfl
@[go_sem] theorem e4w:L.env.bytes 41=56:=by kernel_rfl
@[go_sem] theorem e4v:L.env.bytes 43=32:=by kernel_rfl
@[go_sem] theorem e4u:L.env.bytes 46=24:=by kernel_rfl
@[go_sem] theorem ag9:b9w L.env 9=some false:=by kernel_rfl
@[go_sem] theorem e5p{k:Nat}(h:(k≤1000000000)=True):a2j L.env 9 k=true:=a91 (of_eq_true h) (by rw[by9];decide)
@[go_sem] theorem e5o{k:Nat}(h:(k≤1000000000)=True):a2j L.env 41 k=true:=a91 (of_eq_true h) (by rw[e4w];decide)
@[go_sem] theorem e5n{k:Nat}(h:(k≤1000000000)=True):a2j L.env 43 k=true:=a91 (of_eq_true h) (by rw[e4v];decide)
@[go_sem] theorem e5m{k:Nat}(h:(k≤1000000000)=True):a2j L.env 46 k=true:=a91 (of_eq_true h) (by rw[e4u];decide)
@[go_sem] theorem is3:isT L.env 3=true∧L.env.sz 3=1∧b9w L.env 3=some false∧d6w L.env 3=some .i64∧L.env.zero 3=some [.int .i64 0]∧L.env.und 4=some .bool∧isT L.env 5=true∧isT L.env 9=true∧L.env.sz 9=1∧d3u L.env 9=true∧L.env.zero 9=some [.str []]∧slT L.env 22=some 9∧apT L.env 22 22=some 9∧isT L.env 23=true∧L.env.sz 23=1∧b9w L.env 23=some false∧slT L.env 23=some 41∧apT L.env 23 23=some 41∧isT L.env 24=true∧L.env.sz 24=1∧b9w L.env 24=some false∧slT L.env 24=some 43∧apT L.env 24 24=some 43∧isT L.env 27=true∧L.env.sz 27=1∧b9w L.env 27=some false∧slT L.env 27=some 46∧apT L.env 27 27=some 46∧isT L.env 29=true∧L.env.sz 29=3∧b9w L.env 29=some true∧d0h L.env 29=true∧b5w L.env 29 0=some (0,27)∧b8f L.env 29 0=some (0,1)∧b5w L.env 29 1=some (1,23)∧b8f L.env 29 1=some (1,1)∧b5w L.env 29 2=some (2,24)∧b8f L.env 29 2=some (2,1)∧L.env.zero 29=some [.nilslice,.nilslice,.nilslice]∧isT L.env 31=true∧L.env.sz 31=1∧b9w L.env 31=some false∧isT L.env 41=true∧L.env.sz 41=6∧b9w L.env 41=some true∧d0h L.env 41=true∧b5w L.env 41 0=some (0,9)∧b8f L.env 41 0=some (0,1)∧b5w L.env 41 1=some (1,3)∧b8f L.env 41 1=some (1,1)∧b5w L.env 41 2=some (2,3)∧b8f L.env 41 2=some (2,1)∧b5w L.env 41 3=some (3,3)∧b8f L.env 41 3=some (3,1)∧b5w L.env 41 4=some (4,3)∧b8f L.env 41 4=some (4,1)∧b5w L.env 41 5=some (5,3)∧b8f L.env 41 5=some (5,1)∧L.env.zero 41=some [.str [],.int .i64 0,.int .i64 0,.int .i64 0,.int .i64 0,.int .i64 0]∧isT L.env 43=true:=by refine⟨?_,?_,?_,?_,?_,?_,?_,?_,?_,?_,?_,?_,?_,?_,?_,?_,?_,?_,?_,?_,?_,?_,?_,?_,?_,?_,?_,?_,?_,?_,?_,?_,?_,?_,?_,?_,?_,?_,?_,?_,?_,?_,?_,?_,?_,?_,?_,?_,?_,?_,?_,?_,?_,?_,?_,?_,?_,?_,?_,?_⟩<;>kernel_rfl
@[go_sem] theorem e5l{k:Nat}(h:(k≤1000000000)=True):a2j L.env 3 k=true:=a91 (of_eq_true h) (by rw[by3];decide)
@[go_sem] theorem e59:L.env.sz 43=3∧b9w L.env 43=some true∧d0h L.env 43=true∧b5w L.env 43 0=some (0,3)∧b8f L.env 43 0=some (0,1)∧b5w L.env 43 1=some (1,9)∧b8f L.env 43 1=some (1,1)∧b5w L.env 43 2=some (2,3)∧b8f L.env 43 2=some (2,1)∧L.env.zero 43=some [.int .i64 0,.str [],.int .i64 0]∧isT L.env 44=true∧L.env.sz 44=1∧b9w L.env 44=some false∧isT L.env 46=true∧L.env.sz 46=2∧b9w L.env 46=some true∧d0h L.env 46=true∧b5w L.env 46 0=some (0,9)∧b8f L.env 46 0=some (0,1)∧b5w L.env 46 1=some (1,44)∧L.env.zero 46=some [.str [],.int .u8 0]∧isT L.env 56=true∧L.env.sz 56=2∧b9w L.env 56=some true∧d0h L.env 56=true∧b5w L.env 56 0=some (0,31)∧b8f L.env 56 0=some (0,1)∧b5w L.env 56 1=some (1,3)∧b8f L.env 56 1=some (1,1)∧L.env.zero 56=some [.int .i64 0,.int .i64 0]∧L.env.zero 82=some [.nilptr,.nilslice]∧slT L.env 88=some 3∧apT L.env 88 88=some 3∧d0h L.env 94=true∧b5w L.env 94 0=some (0,29)∧b5w L.env 94 1=some (3,3)∧L.env.zero 94=some [.nilslice,.nilslice,.nilslice,.int .i64 0]∧b6j L.env 114=false:=by refine⟨?_,?_,?_,?_,?_,?_,?_,?_,?_,?_,?_,?_,?_,?_,?_,?_,?_,?_,?_,?_,?_,?_,?_,?_,?_,?_,?_,?_,?_,?_,?_,?_,?_,?_,?_,?_,?_,?_⟩<;>kernel_rfl
end Go.RInst
/- The library's strings.Builder at this program: copyCheck, WriteString, grow, Len and String, with what they leave alone. -/
namespace Go.Proofs
set_option maxHeartbeats 200000000
open Go.Shelf Go.RowKit Go.Ax
theorem Tryz.bInfo:∃j,Tryz.prog.info? 82=some j∧j.size=2:=by
 have h:(Tryz.prog.info? 82).map (·.size)=some 2:=by kernel_rfl
 obtain⟨j,hj,hs⟩:=e6g.1 h;exact⟨j,hj,hs⟩
theorem Tryz.bLies:liesAt Tryz.prog Tryz.prog.depth 82 (2/Tryz.prog.cellsOf 82) 0 82 1=true:=by kernel_rfl
structure OnlyB(w w':World)(b:Nat)(g:Option Nat):Prop where
 os:w'.os=w.os
 tape:w'.tape=w.tape
 output:w'.output=w.output
 size:w.heap.size≤w'.heap.size
 other:∀k,k<w.heap.size→k≠b→some k≠g→w'.heap[k]?=w.heap[k]?
theorem OnlyB.refl(w:World)(b:Nat)(g:Option Nat):OnlyB w w b g:=⟨rfl,rfl,rfl,e2c _,λ_ _ _ _=>rfl⟩
theorem OnlyB.trans{a w w':World}{b:Nat}{g:Option Nat}(h:OnlyB a w b g)(k:OnlyB w w' b g):OnlyB a w' b g:=⟨k.os.trans h.os,k.tape.trans h.tape,k.output.trans h.output,e5w h.size k.size,λi hi h1 h2=>(k.other i (by have:=h.size;omega) h1 h2).trans (h.other i hi h1 h2)⟩
theorem OnlyB.setB(w:World)(b i:Nat)(g:Option Nat)(u:Value):OnlyB w (w.setCell ⟨b,i,none⟩ u) b g:=⟨rfl,rfl,rfl,by simp[World.setCell],λk _ h _=>Below.heap_setCell _ _ _ _ h⟩
theorem OnlyB.buffed{w w':World}{b:Nat}{g:Option Nat}{t:TypeId}{v:Value}{xs:List Value}(h:Buffed w w' g t v xs):OnlyB w w' b g:=⟨h.os,h.tape,h.output,h.size,λk hk _ h2=>h.other k hk h2⟩
abbrev a35(b:Nat):Value:=.pointer (some ⟨b,0,none⟩)
theorem e0w{w:World}{b:Nat}{p v u:Value}{T:TypeId}(h:w.heap[b]?=some (.cells #[p,v] T (0,0))):(w.setCell ⟨b,0,none⟩ u).heap[b]?=some (.cells #[u,v] T (0,0)):=by simp[World.setCell,e5x,h]
theorem d3y{w:World}{b:Nat}{p v u:Value}{T:TypeId}(h:w.heap[b]?=some (.cells #[p,v] T (0,0))):(w.setCell ⟨b,1,none⟩ u).heap[b]?=some (.cells #[p,u] T (0,0)):=by simp[World.setCell,e5x,h]
theorem b15{w:World}{b:Nat}{o:Obj}(h:w.heap[b]?=some o):b<w.heap.size:=(e54.1 h).1
set_option maxRecDepth 100000 in
theorem Tryz.bCheck_used(b:Nat)(w:World)(h0:w.cell? ⟨b,0,none⟩=some (.pointer (some ⟨b,0,none⟩))) :
 Calls Tryz.prog 60 #[.pointer (some ⟨b,0,none⟩)] w λe w'=>e = .returned (.tuple #[])∧w'=w:=by
 obtain⟨j,hj,_⟩:=Tryz.bInfo
 go_enter Tryz.func60,Tryz.ntmps60
 go_wp2
 rw[Lib.run_neq_ptr_same w _ Tryz.underlying79 hj]
 go_wp2
 go_end0
 exact⟨rfl,rfl⟩
set_option maxRecDepth 100000 in
theorem Tryz.bCheck_fresh(b:Nat)(w:World)(h0:w.cell? ⟨b,0,none⟩=some (.pointer none))(rn:w.shape? b=some (82,2))(om:w.frozen? ⟨b,0,none⟩=false) :
 Calls Tryz.prog 60 #[.pointer (some ⟨b,0,none⟩)] w λe w'=>e = .returned (.tuple #[])∧w'=w.setCell ⟨b,0,none⟩ (.pointer (some ⟨b,0,none⟩)):=by
 obtain⟨j,hj,qk⟩:=Tryz.bInfo
 go_enter Tryz.func60,Tryz.ntmps60
 go_wp2
 rw[Lib.run_to_unsafe w ⟨b,0,none⟩ Tryz.underlying79 Tryz.underlying122 hj (by rw[qk];decide) rn (Nat.zero_lt_succ 1)];simp only[Result.andThen];rw[Oper.upon_value]
 go_wp2
 rw[run_callFunc_extern Tryz.func79 (by kernel_rfl) (by kernel_rfl) (by kernel_rfl) (e:=Extern.AbiNoEscape.same) (by kernel_rfl)];rw[Lib.run_noEscape];simp only[Result.andThen];rw[Oper.upon_value]
 go_wp2
 rw[Lib.run_from_unsafe w ⟨b,0,none⟩ Tryz.underlying122 Tryz.underlying79 hj rn Tryz.bLies];simp only[Result.andThen];rw[Oper.upon_value]
 go_wp2
 go_end0
 exact⟨rfl,rfl⟩
theorem Tryz.bCheck(b:Nat)(p v:Value)(w:World)(h:w.heap[b]?=some (.cells #[p,v] 82 (0,0)))(hp:p = .pointer none∨p=a35 b) :
 Calls Tryz.prog 60 #[a35 b] w λe w'=>e = .returned (.tuple #[])∧w'.heap[b]?=some (.cells #[a35 b,v] 82 (0,0))∧OnlyB w w' b none:=by
 rcases hp with rfl|rfl
 ·refine(Tryz.bCheck_fresh b w (by rw[Lib.cell_of_heap h];rfl) (by simp[World.shape?,h]) (Lib.frozen_of_heap h 0)).mono ?_
  rintro e w' ⟨rfl,rfl⟩
  exact⟨rfl,e0w h,OnlyB.setB _ _ _ _ _⟩
 ·refine(Tryz.bCheck_used b w (by rw[Lib.cell_of_heap h];rfl)).mono ?_
  rintro e w' ⟨rfl,rfl⟩
  exact⟨rfl,h,OnlyB.refl _ _ _⟩
set_option maxRecDepth 100000 in
theorem Tryz.bWrite(b:Nat)(p v:Value)(s:ByteArray)(w:World)(h:w.heap[b]?=some (.cells #[p,v] 82 (0,0)))(hp:p = .pointer none∨p=a35 b)(g:Option Nat){Q:World→Value→World→Prop}
 (qI:∀w1,OnlyB w w1 b none→∃v' w2,(Builtin.append_ #[80,9] 80 #[v,.string s]).run Tryz.prog w1 = .ok v' w2∧(∃a n c,v' = .slice a n c)∧OnlyB w1 w2 b g∧w2.heap[b]?=w1.heap[b]?∧Q w1 v' w2) :
 Calls Tryz.prog 36 #[a35 b,.string s] w λe w'=>e = .returned (.tuple #[.int .i64 s.size,.nilIface])∧∃w1 v' w2,w'=w2.setCell ⟨b,1,none⟩ v'∧w2.heap[b]?=some (.cells #[a35 b,v] 82 (0,0))∧OnlyB w w1 b none∧OnlyB w1 w2 b g∧Q w1 v' w2:=by
 go_enter Tryz.func36,Tryz.ntmps36
 go_wp2_with (go_at_call 60;refine(Tryz.bCheck b p v w h hp).mono ?_)
 rintro e w1 ⟨rfl,h1,du⟩
 obtain⟨v',w2,ac,⟨sa,sn,sc,rfl⟩,tc,d7,hQ⟩:=qI w1 du;have c1:w1.cell? ⟨b,1,none⟩=some v:=by rw[Lib.cell_of_heap h1];rfl
 rw[h1]at d7;have f1:w2.frozen? ⟨b,1,none⟩=false:=Lib.frozen_of_heap d7 1;have d1:w2.cell? ⟨b,1,none⟩=some v:=by rw[Lib.cell_of_heap d7];rfl
 go_wp2_with (at_builtin;refine Lib.wpList_append_run _ rfl _ _ 80 9 rfl _ _ rfl rfl _ _ ac ?_)
 go_wp2
 go_ret2
 exact⟨rfl,w1,_,w2,rfl,d7,du,tc,hQ⟩
set_option maxRecDepth 100000 in
theorem Tryz.bLen(b:Nat)(p:Value)(a:Option Addr)(n c:Nat)(w:World)(h:w.heap[b]?=some (.cells #[p,.slice a n c] 82 (0,0))) :
 Calls Tryz.prog 38 #[a35 b] w λe w'=>e = .returned (.int .i64 n)∧w'=w:=by
 have c1:w.cell? ⟨b,1,none⟩=some (.slice a n c):=by rw[Lib.cell_of_heap h];rfl
 go_enter Tryz.func38,Tryz.ntmps38
 go_wp2
 go_ret
 exact⟨rfl,rfl⟩
set_option maxRecDepth 100000 in
theorem Tryz.bString_nil(b:Nat)(p:Value)(w:World)(h:w.heap[b]?=some (.cells #[p,.slice none 0 0] 82 (0,0))) :
 Calls Tryz.prog 39 #[a35 b] w λe w'=>e = .returned (.string ⟨#[]⟩)∧w'=w.drew:=by
 have uc:∀(W:World) (q:Option Addr),(Builtin.unsafeString_ #[109,3] 9 #[.pointer q,.int .i64 0]).run Tryz.prog W = .ok (.string .empty) W:=λW q=>Lib.run_unsafeString_none W _ _ _ q;have c1:w.drew.cell? ⟨b,1,none⟩=some (.slice none 0 0):=by have:w.drew.heap[b]?=some (.cells #[p,.slice none 0 0] 82 (0,0)):=h;rw[Lib.cell_of_heap this];rfl
 have ue:(Builtin.unsafeSliceData_ #[80] 109 #[.slice none 0 0]).run Tryz.prog w.drew = .ok (.pointer none) w.drew:=rfl;have mixed:Tryz.prog.follows .mixedOrders=true:=by kernel_rfl
 go_enter Tryz.func39,Tryz.ntmps39
 go_wp2
 go_region_o
 all_goals (go_wp2;go_ret;exact⟨rfl,rfl⟩)
set_option maxRecDepth 100000 in
theorem Tryz.bString(b:Nat)(p:Value)(g c:Nat)(l:List UInt8)(w:World)(h:w.heap[b]?=some (.cells #[p,.slice (some ⟨g,0,none⟩) l.length c] 82 (0,0)))(h0:l≠[])(hc:l.length≤c)(um:l.length≤9223372036854775807)(hb:c74 w g 5 c (Lib.byteCells l)) :
 Calls Tryz.prog 39 #[a35 b] w λe w'=>e = .returned (.string ⟨l.toArray⟩)∧w'=w.drew.freeze ⟨g,0,none⟩ l.length:=by
 obtain⟨cur,hg,fi,hx⟩:=hb;have fx:l.length≠0:=by simpa using h0
 have c1:w.drew.cell? ⟨b,1,none⟩=some (.slice (some ⟨g,0,none⟩) l.length c):=by have:w.drew.heap[b]?=some (.cells #[p,.slice (some ⟨g,0,none⟩) l.length c] 82 (0,0)):=h;rw[Lib.cell_of_heap this];rfl
 have ue:(Builtin.unsafeSliceData_ #[80] 109 #[.slice (some ⟨g,0,none⟩) l.length c]).run Tryz.prog w.drew = .ok (.pointer (some ⟨g,0,none⟩)) w.drew:=Lib.run_unsafeSliceData_row _ _ _ _ _ _ (by omega);have uc:(Builtin.unsafeString_ #[109,3] 9 #[.pointer (some ⟨g,0,none⟩),.int .i64 l.length]).run Tryz.prog w.drew = .ok (.string ⟨l.toArray⟩) (w.drew.freeze ⟨g,0,none⟩ l.length):=by refine Lib.run_unsafeString_row w.drew 109 3 9 5 Tryz.underlying109 (by kernel_rfl) g cur.size (by have gC:w.drew.heap[g]?=some (.cells cur 5 (0,0)):=hg;simp[World.shape?,gC]) l h0 (by omega) um ?_;intro j x hj;have gC:w.drew.heap[g]?=some (.cells cur 5 (0,0)):=hg;rw[a2y,e55,Lib.cell_of_heap gC];exact hx j _ (by simp[Lib.byteCells,hj])
 have mixed:Tryz.prog.follows .mixedOrders=true:=by kernel_rfl
 go_enter Tryz.func39,Tryz.ntmps39
 go_wp2
 go_region_o
 all_goals (go_wp2;go_ret;exact⟨rfl,rfl⟩)
def c73(w w':World)(b:Nat):Prop:=OnlyB w w' b none∧∃cs:Array Value,w'.heap[b]?=some (.cells #[a35 b,.slice (some ⟨w.heap.size,0,none⟩) 0 cs.size] 82 (0,0))∧w'.heap[w.heap.size]?=some (.cells cs 5 (0,0))
theorem d2c{w:World}{b:Nat}{cs:Array Value}(h:w.heap[b]?=some (.cells #[a35 b,.slice none 0 0] 82 (0,0))) :
 c73 w ((w.setCell ⟨b,1,none⟩ (.slice (some ⟨w.heap.size,0,none⟩) 0 cs.size)).alloc (.cells cs 5)).drew.drew.drew b:=by
 have aq:=b15 h;have h2:=d3y (u:=.slice (some ⟨w.heap.size,0,none⟩) 0 cs.size) h;have bA:(w.setCell ⟨b,1,none⟩ (.slice (some ⟨w.heap.size,0,none⟩) 0 cs.size)).heap.size=w.heap.size:=by simp
 refine⟨⟨rfl,rfl,rfl,?_,λk hk h1 _=>?_⟩,cs,?_,?_⟩
 ·show w.heap.size≤((w.setCell _ _).heap.push _).size;rw[Array.size_push,bA];omega
 ·show((w.setCell _ _).heap.push _)[k]?=_;rw[e5k,bA,e2i (by omega),Below.heap_setCell _ _ _ _ h1]
 ·show((w.setCell _ _).heap.push _)[b]?=_;rw[e5k,bA,e2i (by omega)];exact h2
 ·show((w.setCell _ _).heap.push _)[w.heap.size]?=_;rw[e5k,bA,e3g rfl]
set_option maxRecDepth 100000 in
theorem Tryz.bgrow(b n:Nat)(w:World)(ie:w.heap[b]?=some (.cells #[a35 b,.slice none 0 0] 82 (0,0)))(hn:n≤281474976710656) :
 Calls Tryz.prog 75 #[a35 b,.int .i64 n] w λe w'=>e = .returned (.tuple #[])∧c73 w w' b:=by
 obtain⟨cs,ac,aN,kg⟩:=Lib.run_makeNoZero (P:=Tryz.prog) w.drew #[3] 80 5 Tryz.underlying80 n hn;have hw:IntKind.i64.wrap (IntKind.i64.wrap 0+(n:Int))=n:=by rw[IntKind.wrap_i64,IntKind.wrap_i64];omega
 have am:(callFunc 92 #[.int .i64 (IntKind.i64.wrap (IntKind.i64.wrap 0+(n:Int)))]).run Tryz.prog w.drew = .ok (.value (.slice (some ⟨w.drew.heap.size,0,none⟩) n cs.size)) (w.drew.drew.drew.alloc (.cells cs 5)):=by rw[hw,run_callFunc_extern Tryz.func92 (by kernel_rfl) (by kernel_rfl) (by kernel_rfl) (e:=Extern.BytealgMakeNoZero.makeNoZero #[3] #[80]) (by kernel_rfl),ac];rfl
 have aq:=b15 ie;have c1:w.drew.cell? ⟨b,1,none⟩=some (.slice none 0 0):=by have:w.drew.heap[b]?=_:=ie;rw[Lib.cell_of_heap this];rfl
 have c2:(w.alloc (.cells cs 5)).cell? ⟨b,1,none⟩=some (.slice none 0 0):=by have:(w.alloc (.cells cs 5)).heap[b]?=_:=(Lib.alloc_old w _ b aq).trans ie;rw[Lib.cell_of_heap this];rfl
 have f2:(w.alloc (.cells cs 5)).frozen? ⟨b,1,none⟩=false:=Lib.frozen_of_heap ((Lib.alloc_old w _ b aq).trans ie) 1;have uC:(sizeOf 5).run Tryz.prog w = .ok 1 w:=Tryz.sizeOf5 w;have rJ:∀W:World,(Builtin.copy_ #[80,80] 3 #[.slice (some ⟨w.heap.size,0,none⟩) 0 cs.size,.slice none 0 0]).run Tryz.prog W = .ok (goInt 0) W:=λW=>run_copy_none W 80 80 3 5 _ _ 0 cs.size 0 0 Tryz.underlying80 (by kernel_rfl) rfl;clear hw;have mixed:Tryz.prog.follows .mixedOrders=true:=by kernel_rfl
 go_enter Tryz.func75,Tryz.ntmps75
 go_wp2
 have bi:=d2c (cs:=cs) ie
 go_region_o
 all_goals (go_wp2;go_end0;exact⟨rfl,bi⟩)
set_option maxRecDepth 1000000 in
theorem Tryz.bGrow(b n:Nat)(w:World)(ie:w.heap[b]?=some (.cells #[.pointer none,.slice none 0 0] 82 (0,0)))(hn:n≤281474976710656) :
 Calls Tryz.prog 53 #[a35 b,.int .i64 n] w λe w'=>e = .returned (.tuple #[])∧((n=0∧w'=(w.setCell ⟨b,0,none⟩ (a35 b)).drew)∨(n≠0∧c73 (w.setCell ⟨b,0,none⟩ (a35 b)).drew w' b)):=by
 have oB:(w.setCell ⟨b,0,none⟩ (a35 b)).heap[b]?=some (.cells #[a35 b,.slice none 0 0] 82 (0,0)):=e0w ie;have c1:(w.setCell ⟨b,0,none⟩ (a35 b)).cell? ⟨b,1,none⟩=some (.slice none 0 0):=by rw[Lib.cell_of_heap oB];rfl
 have kX:(w.setCell ⟨b,0,none⟩ (a35 b)).drew.cell? ⟨b,1,none⟩=some (.slice none 0 0):=c1;have mixed:Tryz.prog.follows .mixedOrders=true:=by kernel_rfl
 go_enter Tryz.func53,Tryz.ntmps53
 go_wp2_with (go_at_call 60;refine(Tryz.bCheck_fresh b w (by rw[Lib.cell_of_heap ie];rfl) (by simp[World.shape?,ie]) (Lib.frozen_of_heap ie 0)).mono ?_;rintro e w' ⟨rfl,rfl⟩)
 go_region_o
 all_goals go_wp2_with (go_at_call 75;refine(Tryz.bgrow b n (w.setCell ⟨b,0,none⟩ (a35 b)).drew oB hn).mono ?_;rintro e w' ⟨rfl,h1⟩)
 all_goals first
  |(go_end0;exact⟨rfl,.inr ⟨by omega,h1⟩⟩)
  |(go_end0;exact⟨rfl,.inl ⟨by omega,rfl⟩⟩)
end Go.Proofs
/- The shelf's contracts at this dump, in plain words (printed by the kit's lay-plain.mjs). -/
namespace Go.Proofs
open Go.Shelf
def Tryz.lays156_ren:Go.Shelf.Ren:=⟨λ|156=>24|165=>53|166=>36|169=>39|240=>60|241=>75|276=>79|277=>92|n=>n,λ|31=>22|9=>9|3=>3|4=>4|0=>0|20=>20|72=>82|76=>85|70=>79|37=>80|75=>84|127=>109|164=>122|5=>5|80=>90|n=>n,λ|n=>n⟩
theorem Tryz.lays156:Go.Proofs.Lays.n156 Tryz.prog Tryz.lays156_ren:={
 mixed:=by kernel_rfl
 f156:=Tryz.func24.trans (congrArg some (by kernel_rfl))
 f165:=Tryz.func53.trans (congrArg some (by kernel_rfl))
 f166:=Tryz.func36.trans (congrArg some (by kernel_rfl))
 f169:=Tryz.func39.trans (congrArg some (by kernel_rfl))
 f240:=Tryz.func60.trans (congrArg some (by kernel_rfl))
 f241:=Tryz.func75.trans (congrArg some (by kernel_rfl))
 f276:=Tryz.func79.trans (congrArg some (by kernel_rfl))
 f277:=Tryz.func92.trans (congrArg some (by kernel_rfl))
 t0:=Tryz.underlying0
 a0:=Tryz.isAgg0
 z0:=Tryz.sizeOf0
 v0:=Tryz.zeroValue0
 t3:=Tryz.underlying3
 a3:=Tryz.isAgg3
 z3:=Tryz.sizeOf3
 v3:=Tryz.zeroValue3
 t4:=Tryz.underlying4
 a4:=Tryz.isAgg4
 z4:=Tryz.sizeOf4
 v4:=Tryz.zeroValue4
 t9:=Tryz.underlying9
 a9:=Tryz.isAgg9
 z9:=Tryz.sizeOf9
 v9:=Tryz.zeroValue9
 t20:=Tryz.underlying20
 a20:=Tryz.isAgg20
 z20:=Tryz.sizeOf20
 v20:=Tryz.zeroValue20
 t31:=Tryz.underlying22
 a31:=Tryz.isAgg22
 z31:=Tryz.sizeOf22
 v31:=Tryz.zeroValue22
 t37:=Tryz.underlying80
 a37:=Tryz.isAgg80
 z37:=Tryz.sizeOf80
 v37:=Tryz.zeroValue80
 t70:=Tryz.underlying79
 a70:=Tryz.isAgg79
 z70:=Tryz.sizeOf79
 v70:=Tryz.zeroValue79
 t72:=Tryz.underlying82
 a72:=Tryz.isAgg82
 z72:=Tryz.sizeOf82
 v72:=Tryz.zeroValue82
 t75:=Tryz.underlying84
 a75:=Tryz.isAgg84
 z75:=Tryz.sizeOf84
 v75:=Tryz.zeroValue84
 t76:=Tryz.underlying85
 a76:=Tryz.isAgg85
 z76:=Tryz.sizeOf85
 v76:=Tryz.zeroValue85
 t127:=Tryz.underlying109
 a127:=Tryz.isAgg109
 z127:=Tryz.sizeOf109
 v127:=Tryz.zeroValue109
 t164:=Tryz.underlying122
 a164:=Tryz.isAgg122
 z164:=Tryz.sizeOf122
 v164:=Tryz.zeroValue122 }
theorem Tryz.Builder_Extra_156:Builder.Extra Tryz.prog Tryz.lays156_ren:={
 sizeBuilder:=by kernel_rfl
 liesBuilder:=by kernel_rfl
 t5:=Tryz.underlying5
 a5:=Tryz.isAgg5
 z5:=Tryz.sizeOf5
 v5:=Tryz.zeroValue5
 infoByte:=by kernel_rfl
 cellsByte:=by kernel_rfl
 sizeByte:=by kernel_rfl
 neB5:=by decide }
open Go.RowKit in
theorem Tryz.strings_Join(bk o c:Nat)(xs:List ByteArray)(eM:ByteArray)(w:World)(bx:∀(j:Nat) x,xs[j]?=some x→w.cell? ⟨bk,o+j,none⟩=some (.string x))(ie:bk<w.heap.size)(hN:xs.length≤140737488355328)(bD:xs.length≤c)(ak:(Lib.join (xs.map (·.data.toList)) eM.data.toList).length≤140737488355328) :
 Calls Tryz.prog 24 #[.slice (some ⟨bk,o,none⟩) xs.length c,.string eM] w λe w'=>e = .returned (.string ⟨(Lib.join (xs.map (·.data.toList)) eM.data.toList).toArray⟩)∧Below w.heap.size w w':=Any.strings_Join Tryz.lays156 Tryz.Builder_Extra_156 bk o c xs eM w bx ie hN bD ak
def Tryz.laysM171_ren:Go.Shelf.Ren:=⟨λ|171=>37|243=>61|246=>80|283=>95|284=>96|285=>97|286=>98|129=>113|317=>117|318=>118|319=>119|320=>120|337=>128|338=>129|n=>n,λ|3=>3|9=>9|2=>2|4=>4|171=>134|0=>0|53=>135|37=>80|5=>5|173=>138|212=>159|51=>152|20=>20|213=>160|46=>131|232=>173|233=>174|n=>n,λ|17=>3|18=>4|19=>5|n=>n⟩
theorem Tryz.laysM171:Go.Proofs.LaysM.n171 Tryz.prog Tryz.laysM171_ren:={
 mixed:=by kernel_rfl
 f129:=Tryz.func113.trans (congrArg some (by kernel_rfl))
 f171:=Tryz.func37.trans (congrArg some (by kernel_rfl))
 f243:=Tryz.func61.trans (congrArg some (by kernel_rfl))
 f246:=Tryz.func80.trans (congrArg some (by kernel_rfl))
 f283:=Tryz.func95.trans (congrArg some (by kernel_rfl))
 f284:=Tryz.func96.trans (congrArg some (by kernel_rfl))
 f285:=Tryz.func97.trans (congrArg some (by kernel_rfl))
 f286:=Tryz.func98.trans (congrArg some (by kernel_rfl))
 f317:=Tryz.func117.trans (congrArg some (by kernel_rfl))
 f318:=Tryz.func118.trans (congrArg some (by kernel_rfl))
 f319:=Tryz.func119.trans (congrArg some (by kernel_rfl))
 f320:=Tryz.func120.trans (congrArg some (by kernel_rfl))
 f337:=Tryz.func128.trans (congrArg some (by kernel_rfl))
 f338:=Tryz.func129.trans (congrArg some (by kernel_rfl))
 t0:=Tryz.underlying0
 a0:=Tryz.isAgg0
 z0:=Tryz.sizeOf0
 v0:=Tryz.zeroValue0
 t2:=Tryz.underlying2
 a2:=Tryz.isAgg2
 z2:=Tryz.sizeOf2
 v2:=Tryz.zeroValue2
 t3:=Tryz.underlying3
 a3:=Tryz.isAgg3
 z3:=Tryz.sizeOf3
 v3:=Tryz.zeroValue3
 t4:=Tryz.underlying4
 a4:=Tryz.isAgg4
 z4:=Tryz.sizeOf4
 v4:=Tryz.zeroValue4
 t5:=Tryz.underlying5
 a5:=Tryz.isAgg5
 z5:=Tryz.sizeOf5
 v5:=Tryz.zeroValue5
 t9:=Tryz.underlying9
 a9:=Tryz.isAgg9
 z9:=Tryz.sizeOf9
 v9:=Tryz.zeroValue9
 t20:=Tryz.underlying20
 a20:=Tryz.isAgg20
 z20:=Tryz.sizeOf20
 v20:=Tryz.zeroValue20
 t37:=Tryz.underlying80
 a37:=Tryz.isAgg80
 z37:=Tryz.sizeOf80
 v37:=Tryz.zeroValue80
 t46:=Tryz.underlying131
 a46:=Tryz.isAgg131
 z46:=Tryz.sizeOf131
 v46:=Tryz.zeroValue131
 t51:=Tryz.underlying152
 a51:=Tryz.isAgg152
 z51:=Tryz.sizeOf152
 v51:=Tryz.zeroValue152
 t53:=Tryz.underlying135
 a53:=Tryz.isAgg135
 z53:=Tryz.sizeOf135
 v53:=Tryz.zeroValue135
 t171:=Tryz.underlying134
 a171:=Tryz.isAgg134
 z171:=Tryz.sizeOf134
 v171:=Tryz.zeroValue134
 t173:=Tryz.underlying138
 a173:=Tryz.isAgg138
 z173:=Tryz.sizeOf138
 v173:=Tryz.zeroValue138
 t212:=Tryz.underlying159
 a212:=Tryz.isAgg159
 z212:=Tryz.sizeOf159
 v212:=Tryz.zeroValue159
 t213:=Tryz.underlying160
 a213:=Tryz.isAgg160
 z213:=Tryz.sizeOf160
 t232:=Tryz.underlying173
 a232:=Tryz.isAgg173
 z232:=Tryz.sizeOf173
 v232:=Tryz.zeroValue173
 t233:=Tryz.underlying174
 a233:=Tryz.isAgg174
 z233:=Tryz.sizeOf174
 v233:=Tryz.zeroValue174
 g17:=by kernel_rfl
 g18:=by kernel_rfl
 g19:=by kernel_rfl
 i0:=by kernel_rfl
 i2:=by kernel_rfl
 i3:=by kernel_rfl
 i4:=by kernel_rfl
 i5:=by kernel_rfl
 i9:=by kernel_rfl
 i20:=by kernel_rfl
 i37:=by kernel_rfl
 i46:=by kernel_rfl
 i51:=by kernel_rfl
 i53:=by kernel_rfl
 i171:=by kernel_rfl
 i173:=by kernel_rfl
 i212:=by kernel_rfl
 i232:=by kernel_rfl
 i233:=by kernel_rfl
 m17:=by kernel_rfl
 m18:=by kernel_rfl
 m19:=by kernel_rfl }
open Go.RowKit Go.Sort Go.Lib in
theorem Tryz.strconv_Itoa(n:Int)(h0:-9223372036854775808≤n)(h1:n≤9223372036854775807)(w:World)(mr:Lib.TabIs Tryz.prog w "internal/strconv.uint64pow10" .u64 Lib.pow10Tab) :
 Calls Tryz.prog 37 #[.int .i64 n] w λe w'=>e = .returned (.string ⟨(Lib.itoa n).toArray⟩)∧∃k os,w'=grow (w.drewN k) os:=Any.strconv_Itoa Tryz.laysM171 n h0 h1 w mr
def Tryz.lays138_ren:Go.Shelf.Ren:=⟨λ|138=>73|195=>89|218=>90|143=>74|219=>91|217=>86|225=>114|224=>115|267=>116|266=>102|314=>127|n=>n,λ|9=>9|3=>3|4=>4|5=>5|0=>0|46=>131|146=>168|51=>152|n=>n,λ|1=>0|n=>n⟩
theorem Tryz.lays138:Go.Proofs.Lays.n138 Tryz.prog Tryz.lays138_ren:={
 mixed:=by kernel_rfl
 f138:=Tryz.func73.trans (congrArg some (by kernel_rfl))
 f143:=Tryz.func74.trans (congrArg some (by kernel_rfl))
 f195:=Tryz.func89.trans (congrArg some (by kernel_rfl))
 f217:=Tryz.func86.trans (congrArg some (by kernel_rfl))
 f218:=Tryz.func90.trans (congrArg some (by kernel_rfl))
 f219:=Tryz.func91.trans (congrArg some (by kernel_rfl))
 f224:=Tryz.func115.trans (congrArg some (by kernel_rfl))
 f225:=Tryz.func114.trans (congrArg some (by kernel_rfl))
 f266:=Tryz.func102.trans (congrArg some (by kernel_rfl))
 f267:=Tryz.func116.trans (congrArg some (by kernel_rfl))
 f314:=Tryz.func127.trans (congrArg some (by kernel_rfl))
 t0:=Tryz.underlying0
 a0:=Tryz.isAgg0
 z0:=Tryz.sizeOf0
 v0:=Tryz.zeroValue0
 t3:=Tryz.underlying3
 a3:=Tryz.isAgg3
 z3:=Tryz.sizeOf3
 v3:=Tryz.zeroValue3
 t4:=Tryz.underlying4
 a4:=Tryz.isAgg4
 z4:=Tryz.sizeOf4
 v4:=Tryz.zeroValue4
 t5:=Tryz.underlying5
 a5:=Tryz.isAgg5
 z5:=Tryz.sizeOf5
 v5:=Tryz.zeroValue5
 t9:=Tryz.underlying9
 a9:=Tryz.isAgg9
 z9:=Tryz.sizeOf9
 v9:=Tryz.zeroValue9
 t46:=Tryz.underlying131
 a46:=Tryz.isAgg131
 z46:=Tryz.sizeOf131
 v46:=Tryz.zeroValue131
 t51:=Tryz.underlying152
 a51:=Tryz.isAgg152
 z51:=Tryz.sizeOf152
 v51:=Tryz.zeroValue152
 t146:=Tryz.underlying168
 a146:=Tryz.isAgg168
 z146:=Tryz.sizeOf168
 v146:=Tryz.zeroValue168
 g1:=by kernel_rfl }
open Go.RowKit Go.Lib in
theorem Tryz.strings_Count_one(s:ByteArray)(c:UInt8)(w:World) :
 Calls Tryz.prog 73 #[.string s,.string ⟨#[c]⟩] w λe w'=>e = .returned (.int .i64 (Lib.countByte s.data.toList c))∧w'=w:=Any.strings_Count_one Tryz.lays138 s c w
def Tryz.lays190_ren:Go.Shelf.Ren:=⟨λ|190=>70|125=>88|258=>87|128=>112|129=>113|302=>103|303=>104|304=>105|305=>106|306=>107|307=>108|308=>109|309=>110|310=>111|333=>121|329=>122|330=>123|334=>124|335=>125|336=>126|344=>130|n=>n,λ|31=>22|9=>9|3=>3|46=>131|0=>0|51=>152|53=>135|4=>4|183=>145|182=>144|131=>149|5=>5|218=>162|222=>166|228=>170|229=>171|n=>n,λ|n=>n⟩
theorem Tryz.lays190:Go.Proofs.Lays.n190 Tryz.prog Tryz.lays190_ren:={
 mixed:=by kernel_rfl
 f125:=Tryz.func88.trans (congrArg some (by kernel_rfl))
 f128:=Tryz.func112.trans (congrArg some (by kernel_rfl))
 f129:=Tryz.func113.trans (congrArg some (by kernel_rfl))
 f190:=Tryz.func70.trans (congrArg some (by kernel_rfl))
 f258:=Tryz.func87.trans (congrArg some (by kernel_rfl))
 f302:=Tryz.func103.trans (congrArg some (by kernel_rfl))
 f303:=Tryz.func104.trans (congrArg some (by kernel_rfl))
 f304:=Tryz.func105.trans (congrArg some (by kernel_rfl))
 f305:=Tryz.func106.trans (congrArg some (by kernel_rfl))
 f306:=Tryz.func107.trans (congrArg some (by kernel_rfl))
 f307:=Tryz.func108.trans (congrArg some (by kernel_rfl))
 f308:=Tryz.func109.trans (congrArg some (by kernel_rfl))
 f309:=Tryz.func110.trans (congrArg some (by kernel_rfl))
 f310:=Tryz.func111.trans (congrArg some (by kernel_rfl))
 f329:=Tryz.func122.trans (congrArg some (by kernel_rfl))
 f330:=Tryz.func123.trans (congrArg some (by kernel_rfl))
 f333:=Tryz.func121.trans (congrArg some (by kernel_rfl))
 f334:=Tryz.func124.trans (congrArg some (by kernel_rfl))
 f335:=Tryz.func125.trans (congrArg some (by kernel_rfl))
 f336:=Tryz.func126.trans (congrArg some (by kernel_rfl))
 f344:=Tryz.func130.trans (congrArg some (by kernel_rfl))
 t0:=Tryz.underlying0
 a0:=Tryz.isAgg0
 z0:=Tryz.sizeOf0
 v0:=Tryz.zeroValue0
 t3:=Tryz.underlying3
 a3:=Tryz.isAgg3
 z3:=Tryz.sizeOf3
 v3:=Tryz.zeroValue3
 t4:=Tryz.underlying4
 a4:=Tryz.isAgg4
 z4:=Tryz.sizeOf4
 v4:=Tryz.zeroValue4
 t5:=Tryz.underlying5
 a5:=Tryz.isAgg5
 z5:=Tryz.sizeOf5
 v5:=Tryz.zeroValue5
 t9:=Tryz.underlying9
 a9:=Tryz.isAgg9
 z9:=Tryz.sizeOf9
 v9:=Tryz.zeroValue9
 t31:=Tryz.underlying22
 a31:=Tryz.isAgg22
 z31:=Tryz.sizeOf22
 v31:=Tryz.zeroValue22
 t46:=Tryz.underlying131
 a46:=Tryz.isAgg131
 z46:=Tryz.sizeOf131
 v46:=Tryz.zeroValue131
 t51:=Tryz.underlying152
 a51:=Tryz.isAgg152
 z51:=Tryz.sizeOf152
 v51:=Tryz.zeroValue152
 t53:=Tryz.underlying135
 a53:=Tryz.isAgg135
 z53:=Tryz.sizeOf135
 v53:=Tryz.zeroValue135
 t131:=Tryz.underlying149
 a131:=Tryz.isAgg149
 z131:=Tryz.sizeOf149
 v131:=Tryz.zeroValue149
 t182:=Tryz.underlying144
 a182:=Tryz.isAgg144
 z182:=Tryz.sizeOf144
 v182:=Tryz.zeroValue144
 t183:=Tryz.underlying145
 a183:=Tryz.isAgg145
 z183:=Tryz.sizeOf145
 v183:=Tryz.zeroValue145
 t218:=Tryz.underlying162
 a218:=Tryz.isAgg162
 z218:=Tryz.sizeOf162
 v218:=Tryz.zeroValue162
 t222:=Tryz.underlying166
 a222:=Tryz.isAgg166
 z222:=Tryz.sizeOf166
 v222:=Tryz.zeroValue166
 t228:=Tryz.underlying170
 a228:=Tryz.isAgg170
 z228:=Tryz.sizeOf170
 v228:=Tryz.zeroValue170
 t229:=Tryz.underlying171
 a229:=Tryz.isAgg171
 z229:=Tryz.sizeOf171
 v229:=Tryz.zeroValue171 }
open Go.Sort Go.RowKit in
theorem Tryz.slices_Sort_string(blk off cap:Nat)(ss:List (List UInt8))(w:World)(hH:Holds encStr w blk off ss.toArray)(ek:blk<w.heap.size)(bA:ss.length<4611686018427387904) :
 Calls Tryz.prog 70 #[.slice (some ⟨blk,off,none⟩) ss.length cap] w λe w'=>e = .returned (.tuple #[])∧∃n os,w'=grow (putRow encStr (Sort.ahead w n) blk off (ss.mergeSort λx y=>decide (x≤y)).toArray) os:=Any.slices_Sort_string Tryz.lays190 blk off cap ss w hH ek bA
def Tryz.lays102_ren:Go.Shelf.Ren:=⟨λ|102=>30|209=>59|207=>78|n=>n,λ|9=>9|4=>4|3=>3|n=>n,λ|n=>n⟩
theorem Tryz.lays102:Go.Proofs.Lays.n102 Tryz.prog Tryz.lays102_ren:={
 mixed:=by kernel_rfl
 f102:=Tryz.func30.trans (congrArg some (by kernel_rfl))
 f207:=Tryz.func78.trans (congrArg some (by kernel_rfl))
 f209:=Tryz.func59.trans (congrArg some (by kernel_rfl))
 t3:=Tryz.underlying3
 a3:=Tryz.isAgg3
 z3:=Tryz.sizeOf3
 v3:=Tryz.zeroValue3
 t4:=Tryz.underlying4
 a4:=Tryz.isAgg4
 z4:=Tryz.sizeOf4
 v4:=Tryz.zeroValue4
 t9:=Tryz.underlying9
 a9:=Tryz.isAgg9
 z9:=Tryz.sizeOf9
 v9:=Tryz.zeroValue9 }
open Go.RowKit Go.Lib in
theorem Tryz.strings_TrimSuffix(s p:ByteArray)(w:World)(hs:s.size≤9223372036854775807) :
 Calls Tryz.prog 30 #[.string s,.string p] w λe w'=>e = .returned (.string ⟨(Lib.trimSuffix s.data.toList p.data.toList).toArray⟩)∧w'=w:=Any.strings_TrimSuffix Tryz.lays102 s p w hs
end Go.Proofs
/- RPok: the primitives give what their functions give. -/
namespace Go.RInst
open Go.Proofs Go.Ax Go.RowKit
variable [PR]
section
variable {E:Env}{I K:Nat→Prop}{ρ:PMap}{w w':World}{H:a08}{h:FHeap}
theorem c1e(r:HRel E.G I K ρ (a03 H) w)(hn:NRel ρ H.length):Ret E I K ρ H.length w I ρ H w:=⟨λ_ h=>h,λ_ _=>rfl,Ext.refl _ _ _,r,hn,e2c _⟩
theorem c4l{G:GTab (List AV)}(r:HRel G I K ρ h w)(hb:Below w.heap.size w w'):HRel G I K ρ h w':=by have hI:∀c,I c→w'.heap[c]?=w.heap[c]?:=λc hc=>hb.block c (r.imm c hc);refine⟨λb o hx=>?_,r.inj,λb m hm=>e58 (r.dom b m hm) hb.size,λc hc=>e58 (r.imm c hc) hb.size,λc hc=>e58 (r.kept c hc) hb.size,r.apart,λg cs hg=>⟨(r.glob g cs hg).1,GAt.mono (λ_ h=>h) hI cs (λ_ _ h=>h) (hI g (r.glob g cs hg).1) (r.glob g cs hg).2⟩⟩;obtain⟨m,h1,h2,h3,h4⟩:=r.live b o hx;exact⟨m,h1,h2,h3,ORel.mono o (λ_ h=>h) hI (λ_ _ h=>h) (hb.block _ (r.dom b m h1)) h4⟩
theorem a9q(r:HRel E.G I K ρ (a03 H) w)(hn:NRel ρ H.length)(hb:Below w.heap.size w w'):Ret E I K ρ H.length w I ρ H w':=⟨λ_ h=>h,λ_ _=>rfl,⟨hb.os,hb.tape,hb.output,hb.size,λc hc=>hb.block c (hc.elim (r.imm c) (r.kept c))⟩,c4l r hb,hn,e2c _⟩
end
theorem c9p{I:Nat→Prop}{w:World}{ρ:PMap}{s:List UInt8}{c:Value}(h:VRel I w ρ (.str s) c):c = .string ⟨s.toArray⟩:=by
 simp only[VRel]at h;obtain⟨t,rfl,ht⟩:=h
 congr 1
 cases t with
 |mk d=>simp at ht;subst ht;simp
theorem c02{I:Nat→Prop}{w:World}{ρ:PMap}(s:List UInt8):VRel I w ρ (.str s) (.string ⟨s.toArray⟩):=by simp only[VRel];exact⟨_,rfl,by simp⟩
theorem bsz(s:List UInt8):(⟨s.toArray⟩:ByteArray).size=s.length:=by simp[ByteArray.size]
theorem bdt(s:List UInt8):(⟨s.toArray⟩:ByteArray).data.toList=s:=by simp
theorem c0e{f:Nat}{q:List AV→Option (AV×a08)}(hq:∀a,L.env.prim f a=q a)(mP:f≠yId)(h0:∀a v H1,q a=some (v,H1)→H1=[])
 (h:∀a v,q a=some (v,[])→∀(I:Nat→Prop) (ρ:PMap) (w:World) (ah:List Value),(∀g cs,L.env.G g=some cs→I g∧GAt I w cs g)→VRels I w ρ a ah→
  Calls Tryz.prog f ah.toArray w λen w'=>∃c,en = .returned c∧Below w.heap.size w w'∧VRel I w' ρ v c):a4h L.env f (primH L.env f):=by
 intro a H v H' hr I K ρ w ah rel hn ha;unfold primH at hr;rw[hq]at hr;split at hr
 ·cases hr
 ·rename_i v1 he;have:=h0 _ _ _ he;cases this
 ·rename_i r aK he;split at hr
  case h_2=>cases hr
  cases hr;have:=h0 _ _ _ he;subst this;rw[a3l mP];refine Calls.mono (h a v he I ρ w ah rel.glob ha) ?_
  rintro en w' ⟨c,rfl,hb,hv⟩
  exact⟨c,I,ρ,rfl,a9q rel hn hb,hv⟩
theorem d7r:a4h L.env 73 (primH L.env 73):=by
 refine c0e (q:=d9q) (λa=>rfl) (by decide) ?_ ?_
 ·intro a v H1 h;unfold d9q at h;split at h
  ·cases h;rfl
  ·cases h
 ·intro a v h I ρ w ah hG ha;unfold d9q at h;split at h
  case h_2=>cases h
  rename_i s c;cases h;simp only[VRels]at ha;obtain⟨c1,_,rfl,h1,c2,_,rfl,h2,rfl⟩:=ha;have h1:=c9p h1;have h2:=c9p h2;subst h1;subst h2;refine Calls.mono (Tryz.strings_Count_one ⟨s.toArray⟩ c w) ?_
  rintro en w' ⟨rfl,rfl⟩
  exact⟨_,rfl,Below.refl _ _,by simp[VRel]⟩
theorem d59:a4h L.env 30 (primH L.env 30):=by
 refine c0e (q:=d8g) (λa=>rfl) (by decide) ?_ ?_
 ·intro a v H1 h;unfold d8g at h;split at h
  ·rw[cond_eq_ite]at h;split at h
   ·cases h;rfl
   ·cases h
  ·cases h
 ·intro a v h I ρ w ah hG ha;unfold d8g at h;split at h
  case h_2=>cases h
  rename_i s p;rw[cond_eq_ite]at h;split at h
  case isFalse=>cases h
  rename_i hs;cases h;have hs:s.length≤1000000000:=by simpa[b7g,e5e]using hs
  simp only[VRels]at ha;obtain⟨c1,_,rfl,h1,c2,_,rfl,h2,rfl⟩:=ha;have h1:=c9p h1;have h2:=c9p h2;subst h1;subst h2;refine Calls.mono (Tryz.strings_TrimSuffix ⟨s.toArray⟩ ⟨p.toArray⟩ w (by rw[bsz];omega)) ?_
  rintro en w' ⟨rfl,rfl⟩
  exact⟨_,rfl,Below.refl _ _,by rw[bdt,bdt];exact c02 _⟩
theorem c39(w:World)(k:Nat)(os:Array Obj):Below w.heap.size w (Go.Sort.grow (w.drewN k) os):=⟨rfl,rfl,rfl,by show w.heap.size≤(w.heap++os).size;simp,λi hi=>by show(w.heap++os)[i]?=_;rw[e5s hi]⟩
theorem d6u:a4h L.env 37 (primH L.env 37):=by
 refine c0e (q:=d4e) (λa=>rfl) (by decide) ?_ ?_
 ·intro a v H1 h;unfold d4e at h;split at h
  ·rw[cond_eq_ite]at h;split at h
   ·cases h;rfl
   ·cases h
  ·cases h
 ·intro a v h I ρ w ah hG ha;unfold d4e at h;split at h
  case h_2=>cases h
  rename_i n;rw[cond_eq_ite]at h;split at h
  case isFalse=>cases h
  rename_i hs;cases h;simp only[b46,e2d]at hs;simp only[VRels,VRel]at ha;obtain⟨c1,_,rfl,rfl,rfl⟩:=ha;obtain⟨_,ey,ia⟩:=hG 3 _ d71
  have mr:Lib.TabIs Tryz.prog w "internal/strconv.uint64pow10" .u64 Lib.pow10Tab:=by
   have hg:Tryz.prog.globalNamed "internal/strconv.uint64pow10" = some 3:=by kernel_rfl
   have hl:Lib.pow10Tab=[1,10,100,1000,10000,100000,1000000,10000000,100000000,1000000000,10000000000,100000000000,1000000000000,10000000000000,100000000000000,1000000000000000,10000000000000000,100000000000000000,1000000000000000000,10000000000000000000]:=by decide+kernel
   obtain⟨cv,h1,h2⟩:=VAt.cells ey;have bC:cv=Lib.pow10Tab.map (Value.int .u64):=by rw[hl];simp only[a8l,e2b,e3a,VRels,VRel]at h2;obtain⟨_,_,rfl,rfl,_,_,rfl,rfl,_,_,rfl,rfl,_,_,rfl,rfl,_,_,rfl,rfl,_,_,rfl,rfl,_,_,rfl,rfl,_,_,rfl,rfl,_,_,rfl,rfl,_,_,rfl,rfl,_,_,rfl,rfl,_,_,rfl,rfl,_,_,rfl,rfl,_,_,rfl,rfl,_,_,rfl,rfl,_,_,rfl,rfl,_,_,rfl,rfl,_,_,rfl,rfl,_,_,rfl,rfl,_,_,rfl,rfl,rfl⟩:=h2;rfl
   have ia:=ia (by simp[a8l]);unfold Lib.TabIs World.var?;rw[hg];simp only[e5u];have rM:=h1 0 (.int .u64 1) (by rw[bC,hl];rfl);have ak:(a8l .u64 [1,10,100,1000,10000,100000,1000000,10000000,100000000,1000000000,10000000000,100000000000,1000000000000,10000000000000,100000000000000,1000000000000000,10000000000000000,100000000000000000,1000000000000000000,10000000000000000000]).length=20:=by rfl
   rw[ak]at ia;cases hb:w.heap[3]? with
   |none=>simp[World.cell?,hb]at rM
   |some ob=>
    cases ob with
    |cells b6 e fr=>
     simp only
     congr 1
     have cJ:∀j,w.cell? ⟨3,j,none⟩=b6[j]?:=λj=>by simp[World.cell?,hb]
     have bA:b6.size≤20:=by rw[cJ]at ia;simpa using ia
     apply e6c;rw[←bC];apply List.ext_getElem?;intro j;rw[e67,←cJ];rcases e6m j cv.length with hj|hj
     ·rw[z9e hj];have:=h1 j cv[j] (by simp);simpa using this
     ·rw[e52 hj,cJ];have:cv.length=20:=by rw[bC,hl];rfl
      simp;omega
    |_=>simp[World.cell?,hb]at rM
  refine Calls.mono (Tryz.strconv_Itoa n (by omega) (by omega) w mr) ?_
  rintro en w' ⟨rfl,k,os,rfl⟩
  exact⟨_,rfl,c39 _ _ _,c02 _⟩
end Go.RInst
/- RPo2: the primitives that look into memory. -/
namespace Go.RInst
open Go.Proofs Go.Ax Go.RowKit
variable [PR]
theorem b2s{I:Nat→Prop}{w:World}{ρ:PMap}{b:Nat}:∀(l:List (List UInt8)) (off:Nat),VRows I w 1 ρ (a1r l) b off→∀(j:Nat) s,l[j]?=some s→w.cell? ⟨b,off+j,none⟩=some (.string ⟨s.toArray⟩)
 | [],off,h,j,s,hj=>by simp at hj
 |x::l,off,h,j,s,hj=>by
  simp only[a1r,e2b,VRows,VAt]at h;obtain⟨_,⟨⟨c,hc,hv⟩,_⟩,h2⟩:=h;cases j with
  |zero=>simp at hj;subst hj;rw[c9p hv]at hc;simpa using hc
  |succ j=>have:=b2s l (off+1) h2 j s (by simpa using hj);rw[show off+(j+1)=off+1+j by omega];exact this
theorem b44{I:Nat→Prop}{w:World}{ρ:PMap}{b:Nat}:∀(l:List (List UInt8)) (off:Nat),(∀(j:Nat) s,l[j]?=some s→w.cell? ⟨b,off+j,none⟩=some (.string ⟨s.toArray⟩))→VRows I w 1 ρ (a1r l) b off
 | [],off,h=>by simp[a1r,VRows]
 |x::l,off,h=>by simp only[a1r,e2b,VRows,VAt];refine⟨rfl,⟨⟨_,h 0 x rfl,c02 _⟩,trivial⟩,b44 l (off+1) λj s hj=>?_⟩;have:=h (j+1) s (by simpa using hj);rw[show off+1+j=off+(j+1) by omega];exact this
theorem a4n(l:List (List UInt8)):(a1r l).length=l.length:=by simp[a1r]
theorem b8x(l:List (List UInt8))(eM:List UInt8)(hj:okJ l eM=true)(b off c:Nat)(w:World)(hb:b<w.heap.size)(bD:l.length≤c)(hc:∀(j:Nat) s,l[j]?=some s→w.cell? ⟨b,off+j,none⟩=some (.string ⟨s.toArray⟩)) :
 Calls Tryz.prog 24 #[.slice (some ⟨b,off,none⟩) l.length c,.string ⟨eM.toArray⟩] w λe w'=>e = .returned (.string ⟨(Lib.join l eM).toArray⟩)∧Below w.heap.size w w':=by
 simp only[okJ,b46,e5e,b7g]at hj;have e1:(l.map λs=>(⟨s.toArray⟩:ByteArray)).map (·.data.toList)=l:=by
  rw[List.map_map]
  conv=>rhs;rw[←List.map_id l]
  exact e5c λs _=>by simp
 have h:=Tryz.strings_Join b off c (l.map λs=>(⟨s.toArray⟩:ByteArray)) ⟨eM.toArray⟩ w (λj x hx=>by rw[e2e]at hx;obtain⟨s,hs,rfl⟩:=e6g.1 hx;exact hc j s hs) hb (by rw[b41];omega) (by rw[b41];exact bD) (by rw[e1];simp only[];have:=hj.2;omega);rw[b41,e1]at h;exact h
theorem c1c{I:Nat→Prop}{w:World}{ρ:PMap}{b:Nat}:∀(aa:List (List AV)) (off:Nat),VRows I w 1 ρ aa b off→∀(j:Nat) s,aa[j]?=some [.str s]→w.cell? ⟨b,off+j,none⟩=some (.string ⟨s.toArray⟩)
 | [],off,h,j,s,hj=>by simp at hj
 |x::l,off,h,j,s,hj=>by
  simp only[VRows]at h;obtain⟨_,h1,h2⟩:=h;cases j with
  |zero=>simp at hj;subst hj;simp only[VAt]at h1;obtain⟨⟨c,hc,hv⟩,_⟩:=h1;rw[c9p hv]at hc;simpa using hc
  |succ j=>have:=c1c l (off+1) h2 j s (by simpa using hj);rw[show off+(j+1)=off+1+j by omega];exact this
theorem c0m(args:List AV)(H:a08):primH L.env 24 args H=bif b8y args then none else c0n args H:=by
 have e:L.env.prim 24 args=bif !b8y args then some (.junk,[none])else none:=by show c4t PR.pr 24 args=_;unfold c4t;cases b8y args<;>rfl
 unfold primH;rw[e];cases b8y args<;>rfl
theorem d25:a4h L.env 24 (primH L.env 24):=by
 intro args H v H' hr I K ρ w ah rel hn ha;rw[c0m]at hr;cases hz:b8y args with
 |true=>rw[hz]at hr;cases hr
 |false=>
 rw[hz]at hr;simp only[e3p]at hr;rw[a3l (by decide)];unfold c0n at hr;split at hr
 ·rename_i c o n cap eM k aa;rw[cond_eq_ite]at hr;split at hr
  case isFalse=>cases hr
  rename_i hc;simp only[b46,e5a,e3f,e5e]at hc;obtain⟨⟨⟨rfl,rfl⟩,pZ⟩,dX⟩:=hc;split at hr
  case h_2=>cases hr
  rename_i l hl;rw[cond_eq_ite]at hr;split at hr
  case isFalse=>cases hr
  rename_i hj;cases hr;have mD:=b6k hl;have gw:l.length=n:=by have:=congrArg List.length mD;rw[a4n,e4z,e79]at this;omega
  obtain⟨m,hm,_,_,hk,eR,_,aD⟩:=rel.live 0 (.row 1 aa) rfl;simp only[VRels,VRel]at ha;obtain⟨_,_,rfl,⟨a,cc,rfl,aN,_,dU⟩,_,_,rfl,ht,rfl⟩:=ha;obtain⟨t,rfl,ht⟩:=ht;have ht:t=⟨eM.toArray⟩:=by cases t;simp at ht;subst ht;simp
  subst ht;obtain⟨m',bz,rfl,_⟩:=dU.resolve_left (by omega);obtain rfl:m=m':=z9o (hm.symm.trans bz);have bx:∀(j:Nat) s,l[j]?=some s→w.cell? ⟨m.blk,m.off+o*m.k+j,none⟩=some (.string ⟨s.toArray⟩):=by
   intro j s qk;have h1:(a1r l)[j]?=some [.str s]:=by unfold a1r;rw[e2e,qk];rfl
   rw[←mD,e5g]at h1;split at h1
   case isFalse=>cases h1
   rw[e6h]at h1;have:=c1c aa m.off aD (o+j) s h1;have ne:m.k=1:=by omega
   rw[ne,show m.off+o*1+j=m.off+(o+j) by omega];exact this
  have:=b8x l eM hj m.blk (m.off+o*m.k) cc w (rel.dom 0 m hm) (by omega) bx;rw[gw]at this;refine Calls.mono this ?_
  rintro en w' ⟨rfl,hb⟩
  exact⟨_,I,ρ,rfl,a9q (H:=[some (.row 1 aa)]) rel hn hb,c02 _⟩
 ·rename_i aa cap eM;rw[cond_eq_ite]at hr;split at hr
  case isFalse=>cases hr
  rename_i hc;have dX:0<aa.length:=by simpa[e3f]using hc
  split at hr
  case h_2=>cases hr
  rename_i l hl;rw[cond_eq_ite]at hr;split at hr
  case isFalse=>cases hr
  rename_i hj;cases hr;have:=b6k hl;subst this;simp only[VRels,VRel]at ha;obtain⟨_,_,rfl,⟨a,cc,k,rfl,aN,_,dU⟩,_,_,rfl,ht,rfl⟩:=ha;obtain⟨t,rfl,ht⟩:=ht;have ht:t=⟨eM.toArray⟩:=by cases t;simp at ht;subst ht;simp
  subst ht;rw[a4n]at dX aN;obtain⟨hs,hI,aD⟩:=dU.resolve_left (by intro e;have:=congrArg List.length e;rw[a4n]at this;simp at this;rw[this]at dX;simp at dX);have hk:k=1:=by
   cases l with
   |nil=>simp at dX
   |cons x l=>simp only[a1r,e2b,VRows]at aD;exact aD.1.symm
  subst hk;have ha:a=⟨a.block,a.off,none⟩:=by cases a;simp_all
  have:=b8x l eM hj a.block a.off cc w (rel.imm _ hI) aN (b2s l a.off aD);rw[←ha]at this;rw[a4n];refine Calls.mono this ?_
  rintro en w' ⟨rfl,hb⟩
  exact⟨_,I,ρ,rfl,a9q (H:=[]) rel hn hb,c02 _⟩
 ·cases hr
theorem c1f{G:GTab (List AV)}{I K:Nat→Prop}{ρ:PMap}{w w':World}{o o':AObj}{m:Pl}(r:HRel G I K ρ (a03 [some o]) w)(hm:ρ 0=some m)(hs:w.heap.size≤w'.heap.size)(hw:∀k,k<w.heap.size→k≠m.blk→w'.heap[k]?=w.heap[k]?)
 (ho:(∀c,I c→w'.heap[c]?=w.heap[c]?)→ORel G I w' ρ m o'):HRel G I K ρ (a03 [some o']) w':=by
 obtain⟨m0,h1,h2,h3,_⟩:=r.live 0 o rfl;obtain rfl:m0=m:=z9o (h1.symm.trans hm);have hI:∀c,I c→w'.heap[c]?=w.heap[c]?:=λc hc=>hw c (r.imm c hc) (λe=>h2 (e▸hc));have kc:∀{o1:AObj} {b x},a03 [some o1] b=some x→b=0∧x=o1:=by
  intro o1 b x hx;cases b with
  |zero=>simp[a03]at hx;exact⟨rfl,hx.symm⟩
  |succ b=>simp[a03]at hx
 refine⟨λb x hx=>?_,λb b' p p' hb bE hp fF he=>?_,λb p hp=>e58 (r.dom b p hp) hs,λc hc=>e58 (r.imm c hc) hs,λc hc=>e58 (r.kept c hc) hs,r.apart,λg cs hg=>⟨(r.glob g cs hg).1,GAt.mono (λ_ h=>h) hI cs (λ_ _ h=>h) (hI g (r.glob g cs hg).1) (r.glob g cs hg).2⟩⟩
 ·obtain⟨rfl,rfl⟩:=kc hx;exact⟨m0,hm,h2,h3,ho hI⟩
 ·obtain⟨x,hx⟩:=e24.1 hb;obtain⟨x',lg⟩:=e24.1 bE;rw[(kc hx).1,(kc lg).1]
theorem c4k{G:GTab (List AV)}{I K:Nat→Prop}{ρ:PMap}{w w':World}{o o' o1:AObj}{m:Pl}(r:HRel G I K ρ (a03 [some o,some o1]) w)(hm:ρ 0=some m)(hs:w.heap.size≤w'.heap.size)(hw:∀k,k<w.heap.size→k≠m.blk→w'.heap[k]?=w.heap[k]?)
 (ho:(∀c,I c→w'.heap[c]?=w.heap[c]?)→ORel G I w' ρ m o'):HRel G I K ρ (a03 [some o',some o1]) w':=by
 obtain⟨m0,h1,h2,h3,_⟩:=r.live 0 o rfl;obtain rfl:m0=m:=z9o (h1.symm.trans hm);have hI:∀c,I c→w'.heap[c]?=w.heap[c]?:=λc hc=>hw c (r.imm c hc) (λe=>h2 (e▸hc));have nD:∀{p q:AObj} {b x},a03 [some p,some q] b=some x→(b=0∧x=p)∨(b=1∧x=q):=by
  intro p q b x hx
  match b,hx with
  |0,hx=>simp[a03]at hx;exact .inl ⟨rfl,hx.symm⟩
  |1,hx=>simp[a03]at hx;exact .inr ⟨rfl,hx.symm⟩
  |b+2,hx=>simp[a03]at hx
 have lL:∀{p q:AObj} {b},(a03 [some p,some q] b).isSome=true→(a03 [some o,some o1] b).isSome=true:=by intro p q b hb;obtain⟨x,hx⟩:=e24.1 hb;rcases nD hx with ⟨rfl,_⟩|⟨rfl,_⟩<;>rfl
 refine⟨λb x hx=>?_,λb b' p p' hb bE hp fF he=>r.inj b b' p p' (lL hb) (lL bE) hp fF he,λb p hp=>e58 (r.dom b p hp) hs,λc hc=>e58 (r.imm c hc) hs,λc hc=>e58 (r.kept c hc) hs,r.apart,λg cs hg=>⟨(r.glob g cs hg).1,GAt.mono (λ_ h=>h) hI cs (λ_ _ h=>h) (hI g (r.glob g cs hg).1) (r.glob g cs hg).2⟩⟩;rcases nD hx with ⟨rfl,rfl⟩|⟨rfl,rfl⟩
 ·exact⟨m0,hm,h2,h3,ho hI⟩
 ·obtain⟨m1,g1,g2,g3,g4⟩:=r.live 1 x rfl;refine⟨m1,g1,g2,g3,ORel.mono x (λ_ h=>h) hI (λ_ _ h=>h) (hw _ (r.dom 1 m1 g1) (λe=>?_)) g4⟩;have:=r.inj 1 0 m1 m0 rfl rfl g1 hm e;omega
theorem d17:a4h L.env 70 (primH L.env 70):=by
 have e:primH L.env 70=c4a:=rfl;rw[e];intro args H v H' hr I K ρ w ah rel hn ha;rw[a3l (by decide)];unfold c4a at hr;split at hr
 case h_2=>cases hr
 rename_i c n cap k aa;rw[cond_eq_ite]at hr;split at hr
 case isFalse=>cases hr
 rename_i hc;simp only[b46,e5a,e3f,e5e,b7g]at hc;obtain⟨⟨⟨⟨rfl,rfl⟩,rfl⟩,dX⟩,iC⟩:=hc;obtain⟨l,hl,he⟩:=e6g.1 hr;cases he;have:=b6k hl;subst this;obtain⟨m,hm,eu,gT,hk,eR,⟨b6,e,ek,aJ,cG⟩,aD⟩:=rel.live 0 (.row 1 (a1r l)) rfl;simp only[VRels,VRel]at ha;obtain⟨_,_,rfl,⟨a,cc,rfl,aN,_,dU⟩,rfl⟩:=ha;rw[a4n]at dX aN iC;obtain⟨m',bz,rfl,_⟩:=dU.resolve_left (by omega);obtain rfl:m=m':=z9o (hm.symm.trans bz);have bx:=b2s l m.off aD;have hH:Go.Sort.Holds encStr w m.blk m.off l.toArray:=by
  intro j hj;have iY:j<l.length:=by simpa using hj
  refine⟨?_,by simp[World.frozen?,ek]⟩;rw[bx j l[j] (z9e iY)];simp[encStr,iY]
 have aX:=Tryz.slices_Sort_string m.blk m.off cc l w hH (rel.dom 0 m hm) (by omega);rw[a4n,show m.off+0*m.k=m.off by omega];refine Calls.mono aX ?_
 rintro en w' ⟨rfl,q,os,rfl⟩
 rw[c07];have ak:(a45 l).length=l.length:=(a6a l).length_eq;have ka:(Go.Sort.putRow encStr (Go.Sort.ahead w q) m.blk m.off (a45 l).toArray).heap[m.blk]?=some (.cells (Go.Sort.putCells encStr m.off (a45 l).toArray b6) e (0,0)):=by show(w.heap.modify m.blk _)[m.blk]?=_;rw[e5x,e3g rfl,ek];rfl
 have bA:(Go.Sort.putRow encStr (Go.Sort.ahead w q) m.blk m.off (a45 l).toArray).heap.size=w.heap.size:=Go.Sort.size_putRow ..;have bX:∀k,k<w.heap.size→k≠m.blk→(Go.Sort.grow (Go.Sort.putRow encStr (Go.Sort.ahead w q) m.blk m.off (a45 l).toArray) os).heap[k]?=w.heap[k]?:=by intro k hk aK;show((Go.Sort.putRow _ _ _ _ _).heap++os)[k]?=_;rw[e5s (by rw[bA];exact hk)];show(w.heap.modify m.blk _)[k]?=_;rw[e5x,e2i (e3m aK)]
 have be:w.heap.size≤(Go.Sort.grow (Go.Sort.putRow encStr (Go.Sort.ahead w q) m.blk m.off (a45 l).toArray) os).heap.size:=by show _≤((Go.Sort.putRow _ _ _ _ _).heap++os).size;rw[Array.size_append,bA];omega
 have pa:=rel.dom 0 m hm;refine⟨_,I,ρ,rfl,⟨λ_ h=>h,λ_ _=>rfl,⟨rfl,rfl,rfl,be,λc hc=>bX c (hc.elim (rel.imm c) (rel.kept c)) (λe=>by subst e;exact hc.elim eu gT)⟩,c1f rel hm be bX λhI=>?_,hn,e2c _⟩,?_⟩
 ·refine⟨hk,eR,⟨Go.Sort.putCells encStr m.off (a45 l).toArray b6,e,?_,?_,?_⟩,?_⟩
  ·show((Go.Sort.putRow _ _ _ _ _).heap++os)[m.blk]?=_;rw[e5s (by rw[bA];exact pa)];exact ka
  ·simp[Go.Sort.putCells,aJ]
  ·rw[a4n]at cG⊢;rw[ak];exact cG
  ·refine b44 _ _ λj s hj=>?_;have iY:j<(a45 l).length:=(e26.1 hj).1;have h1:(Go.Sort.grow (Go.Sort.putRow encStr (Go.Sort.ahead w q) m.blk m.off (a45 l).toArray) os).heap[m.blk]?=some (.cells (Go.Sort.putCells encStr m.off (a45 l).toArray b6) e (0,0)):=by
    show((Go.Sort.putRow _ _ _ _ _).heap++os)[m.blk]?=_;rw[e5s (by rw[bA];exact pa)];exact ka
   rw[a1k h1];rw[a4n]at cG;have dC:m.off+j<b6.size:=by omega
   simp only[Go.Sort.putCells,Array.getElem?_mapIdx,e73 dC,e2a];rw[e3g ⟨by omega,by simp;omega⟩,show m.off+j-m.off=j by omega];have:(a45 l).toArray[j]! = s:=by obtain⟨_,h2⟩:=e26.1 hj;simp[iY,h2]
   rw[this]
 ·simp only[VRel];exact⟨#[],rfl,by simp[VRels]⟩
end Go.RInst
/- RPo3: the primitives of strings.Builder. -/
namespace Go.RInst
open Go.Proofs Go.Ax Go.RowKit
variable [PR]
theorem c4g{b:AV}(h:a7d b=true):b = .nilptr∨b = .ptr 0 0 0:=by
 unfold a7d at h;split at h
 ·exact .inl rfl
 ·simp only[b46,e5a]at h;obtain⟨rfl,rfl,rfl⟩:=h;exact .inr rfl
 ·cases h
theorem a8c{b:AV}(h:a7d b=true)(hn:(!(a5e b .nilptr))=true):b = .ptr 0 0 0:=by
 rcases c4g h with rfl|rfl
 ·simp[a5e]at hn
 ·rfl
theorem b9g{I:Nat→Prop}{w:World}{ρ:PMap}{b:Nat}{aa:List (List AV)}(h:VRows I w 1 ρ aa b 0):∃xs:List Value,xs.length=aa.length∧(∀(j:Nat) x,xs[j]?=some x→w.cell? ⟨b,j,none⟩=some x)∧VRels I w ρ aa.flatten xs:=by rw[VRows.iff]at h;obtain⟨cv,h1,h2⟩:=VAt.cells h.2;refine⟨cv,?_,λj x hx=>by simpa using h1 j x hx,h2⟩;rw[←VRels.length h2,a19 h.1];omega
theorem b62{I:Nat→Prop}{w:World}{ρ:PMap}{m:Pl}{p v:AV}(h:ORel L.env.G I w ρ m (.trow 82 true 2 [[p,v]])):∃cp cv,w.heap[m.blk]?=some (.cells #[cp,cv] 82 (0,0))∧VRel I w ρ p cp∧VRel I w ρ v cv∧m.off=0∧m.k=2∧m.room=2:=by
 obtain⟨h0,hk,_,⟨b6,hb,hs,_,hx⟩,hr⟩:=h;have aJ:=hx rfl;simp only[b94,e27]at aJ;simp only[VRows,VAt]at hr;obtain⟨_,⟨⟨c1,mW,h1⟩,⟨c2,gD,h2⟩,_⟩,_⟩:=hr;rw[a1k hb]at mW gD;refine⟨c1,c2,?_,h1,h2,h0,hk,by omega⟩;rw[hb]
 congr 2
 have:b6.size=2:=by omega
 apply Array.ext_getElem?;intro j
 match j with
 |0=>simpa using mW
 |1=>simpa using gD
 |j+2=>rw[Array.getElem?_eq_none (by omega)];simp
theorem c6e{I:Nat→Prop}{w:World}{ρ:PMap}{m:Pl}{p v:AV}{cp cv:Value}(hb:w.heap[m.blk]?=some (.cells #[cp,cv] 82 (0,0)))(h1:VRel I w ρ p cp)(h2:VRel I w ρ v cv)(h0:m.off=0)(hk:m.k=2)(aJ:m.room=2):ORel L.env.G I w ρ m (.trow 82 true 2 [[p,v]]):=by
 refine⟨h0,hk,by decide,⟨_,hb,by simp[aJ],by simp[aJ],λ_=>by simp[aJ]⟩,?_⟩;simp only[VRows,VAt];refine⟨rfl,⟨⟨cp,?_,h1⟩,⟨cv,?_,h2⟩,trivial⟩,trivial⟩
 ·rw[a1k hb];rfl
 ·rw[a1k hb];rfl
theorem d00{I:Nat→Prop}{w:World}{ρ:PMap}{m:Pl}{p:AV}{cp:Value}(hm:ρ 0=some m)(h0:m.off=0)(hp:a7d p=true)(hv:VRel I w ρ p cp):cp = .pointer none∨cp=a35 m.blk:=by
 rcases c4g hp with rfl|rfl
 ·simp only[VRel]at hv;exact .inl hv
 ·simp only[VRel]at hv;obtain⟨m',bz,rfl⟩:=hv;obtain rfl:m=m':=z9o (hm.symm.trans bz);right;simp[h0]
theorem d6l:a4h L.env 38 (primH L.env 38):=by
 have e:primH L.env 38=e1a:=rfl;rw[e];intro args H v H' hr I K ρ w ah rel hn ha;rw[a3l (by decide)];unfold e1a at hr;split at hr
 case h_2=>cases hr
 rename_i b t k p v1 H1;rw[cond_eq_ite]at hr;split at hr
 case isFalse=>cases hr
 rename_i hc;simp only[b46,e5a]at hc;obtain⟨⟨⟨rfl,rfl⟩,hs⟩,iN⟩:=hc;obtain rfl:=a8c hs iN;obtain⟨m,hm,_,_,ho⟩:=rel.live 0 (.trow 82 true 2 [[p,v1]]) rfl;obtain⟨cp,cv,hb,h1,h2,h0,hk,aJ⟩:=b62 ho;simp only[VRels,VRel]at ha;obtain⟨_,_,rfl,⟨m',bz,rfl⟩,rfl⟩:=ha;obtain rfl:m=m':=z9o (hm.symm.trans bz);have ed:(Value.pointer (some ⟨m.blk,m.off+0*m.k+0,none⟩))=a35 m.blk:=by simp[h0]
 rw[ed];split at hr
 ·cases hr;simp only[VRel]at h2;subst h2;refine Calls.mono (Tryz.bLen m.blk cp none 0 0 w hb) ?_
  rintro en w' ⟨rfl,rfl⟩
  exact⟨_,I,ρ,rfl,c1e rel hn,by simp[VRel]⟩
 ·rename_i g off n cap;cases hr;simp only[VRel]at h2;obtain⟨a,c,rfl,_⟩:=h2;refine Calls.mono (Tryz.bLen m.blk cp (some a) n c w hb) ?_
  rintro en w' ⟨rfl,rfl⟩
  exact⟨_,I,ρ,rfl,c1e rel hn,by simp[VRel]⟩
 ·cases hr
theorem a77{w:World}{g n:Nat}(k:Nat)(h:k≠g):(w.drew.freeze ⟨g,0,none⟩ n).heap[k]?=w.heap[k]?:=by
 unfold World.freeze;split
 ·rfl
 ·show(w.heap.modify g _)[k]?=_;rw[e5x,e2i (e3m h)]
theorem a7m{w:World}{g n:Nat}:(w.drew.freeze ⟨g,0,none⟩ n).heap.size=w.heap.size:=by
 unfold World.freeze;split
 ·rfl
 ·show(w.heap.modify g _).size=_;simp
theorem c4j{G:GTab (List AV)}{I K:Nat→Prop}{ρ ρ':PMap}{w w':World}{o0:AObj}{o1:Option AObj}{H0:a08}(r:HRel G I K ρ (a03 H0) w)(hI:∀c,I c→w'.heap[c]?=w.heap[c]?)(hs:w.heap.size≤w'.heap.size)(kx:∀b m,ρ' b=some m→m.blk<w'.heap.size)(m0:Pl)(ls:ρ' 0=some m0)(h0:¬I m0.blk∧¬K m0.blk∧ORel G I w' ρ' m0 o0)(k:Nat)
 (h1:∀o,o1=some o→∃m1,ρ' (k+1)=some m1∧¬I m1.blk∧¬K m1.blk∧m1.blk≠m0.blk∧ORel G I w' ρ' m1 o):HRel G I K ρ' (a03 (some o0::(List.replicate k none++[o1]))) w':=by
 have ey:∀b x,a03 (some o0::(List.replicate k none++[o1])) b=some x→(b=0∧x=o0)∨(b=k+1∧o1=some x):=by
  intro b x hx;unfold a03 at hx;cases b with
  |zero=>simp at hx;exact .inl ⟨rfl,hx.symm⟩
  |succ b=>
   simp only[e51]at hx;rcases Nat.lt_trichotomy b k with hb|hb|hb
   ·rw[e3q (by simpa using hb)]at hx;simp[hb]at hx
   ·subst hb;rw[e3l (by simp)]at hx;simp at hx;exact .inr ⟨rfl,hx⟩
   ·rw[e3l (by simp;omega)]at hx;rw[e52 (by simp;omega)]at hx;simp at hx
 refine⟨λb x hx=>?_,λb b' p p' hb bE hp fF he=>?_,kx,λc hc=>e58 (r.imm c hc) hs,λc hc=>e58 (r.kept c hc) hs,r.apart,λg cs hg=>⟨(r.glob g cs hg).1,GAt.mono (λ_ h=>h) hI cs (λ_ _ h=>h) (hI g (r.glob g cs hg).1) (r.glob g cs hg).2⟩⟩
 ·rcases ey b x hx with ⟨rfl,rfl⟩|⟨rfl,he⟩
  ·exact⟨m0,ls,h0⟩
  ·obtain⟨m1,q1,q2,q3,_,q4⟩:=h1 x he;exact⟨m1,q1,q2,q3,q4⟩
 ·obtain⟨x,hx⟩:=e24.1 hb;obtain⟨x',lg⟩:=e24.1 bE;rcases ey b x hx with ⟨rfl,rfl⟩|⟨rfl,e1⟩<;>rcases ey b' x' lg with ⟨rfl,rfl⟩|⟨rfl,e2⟩
  ·rfl
  ·obtain⟨m1,q1,_,_,q3,_⟩:=h1 x' e2;rw[ls]at hp;cases hp;rw[q1]at fF;cases fF;exact absurd he.symm q3
  ·obtain⟨m1,q1,_,_,q3,_⟩:=h1 x e1;rw[q1]at hp;cases hp;rw[ls]at fF;cases fF;exact absurd he q3
  ·rfl
theorem d5e:a4h L.env 39 (primH L.env 39):=by
 have e:primH L.env 39=d5f:=rfl;rw[e];intro args H v H' hr I K ρ w ah rel hn ha;rw[a3l (by decide)];unfold d5f at hr;split at hr
 ·rename_i b t k p;rw[cond_eq_ite]at hr;split at hr
  case isFalse=>cases hr
  rename_i hc;simp only[b46,e5a]at hc;obtain⟨⟨⟨rfl,rfl⟩,hs⟩,iN⟩:=hc;obtain rfl:=a8c hs iN;obtain⟨m,hm,_,_,ho⟩:=rel.live 0 (.trow 82 true 2 [[p,.nilslice]]) rfl;obtain⟨cp,cv,hb,h1,h2,h0,hk,aJ⟩:=b62 ho;simp only[VRels,VRel]at ha;obtain⟨_,_,rfl,⟨m',bz,rfl⟩,rfl⟩:=ha;obtain rfl:m=m':=z9o (hm.symm.trans bz);have ed:(Value.pointer (some ⟨m.blk,m.off+0*m.k+0,none⟩))=a35 m.blk:=by simp[h0]
  rw[ed];cases hr;simp only[VRel]at h2;subst h2;refine Calls.mono (Tryz.bString_nil m.blk cp w hb) ?_
  rintro en w' ⟨rfl,rfl⟩
  exact⟨_,I,ρ,rfl,a9q (w':=w.drew) rel hn (Below.drew (Below.refl _ _)),c02 []⟩
 ·rename_i b t k p c n u k1 aa;rw[cond_eq_ite]at hr;split at hr
  case isFalse=>cases hr
  rename_i hc;simp only[b46,e5a,e3f,e5e,b7g]at hc;obtain⟨⟨⟨⟨⟨⟨⟨⟨⟨rfl,rfl⟩,hs⟩,iN⟩,rfl⟩,rfl⟩,rfl⟩,rfl⟩,dX⟩,iC⟩:=hc;obtain rfl:=a8c hs iN;obtain⟨l,hl,he⟩:=e6g.1 hr;cases he;obtain rfl:=c41 hl;obtain⟨m,hm,jF,jR,ho⟩:=rel.live 0 (.trow 82 true 2 [[p,.slice 1 0 (a1h l).length none]]) rfl;obtain⟨cp,cv,hb,h1,h2,h0,hk,aJ⟩:=b62 ho;obtain⟨m1,jl,pi,qP,g0,gk,_,⟨b6,hg,lx,tB,_⟩,og⟩:=rel.live 1 (.trow 5 false 1 (a1h l)) rfl;have aK:m1.blk≠m.blk:=λe=>by have:=rel.inj 1 0 m1 m rfl rfl jl hm e;omega
  simp only[VRels,VRel]at ha;obtain⟨_,_,rfl,⟨m',bz,rfl⟩,rfl⟩:=ha;obtain rfl:m=m':=z9o (hm.symm.trans bz);have ed:(Value.pointer (some ⟨m.blk,m.off+0*m.k+0,none⟩))=a35 m.blk:=by simp[h0]
  rw[ed];have i8:(a1h l).length=l.length:=by simp[a1h]
  simp only[VRel]at h2;obtain⟨a,cc,rfl,aN,_,dU⟩:=h2;rw[i8]at dX aN iC hb;obtain⟨py,mK,rfl,qA⟩:=dU.resolve_left (by omega);obtain rfl:m1=py:=z9o (jl.symm.trans mK);have eJ:c74 w m1.blk 5 cc (Lib.byteCells l):=by
   refine⟨b6,hg,by rw[g0,gk]at qA;omega,λj x hx=>?_⟩;obtain⟨xs,iG,pJ,pI⟩:=b9g og;have cP:xs=Lib.byteCells l:=by
    have aH:∀(l:List UInt8) (xs:List Value),VRels I w ρ (a1h l).flatten xs→xs=Lib.byteCells l:=by
     intro l
     induction l with
     |nil=>intro xs h;simpa[a1h,VRels,Lib.byteCells]using h
     |cons b l ih=>intro xs h;simp only[a1h,e2b,e5h,b82,b43,VRels,VRel]at h;obtain⟨_,sy,rfl,rfl,h⟩:=h;rw[ih sy h];rfl
    exact aH l xs pI
   have:=pJ j x (by rw[cP];exact hx);rw[a1k hg]at this;exact this
  have kF:(⟨m1.blk,m1.off+0*m1.k,none⟩:Addr)=⟨m1.blk,0,none⟩:=by rw[g0];simp
  rw[kF]at hb;refine Calls.mono (Tryz.bString m.blk cp m1.blk cc l w hb (by intro e;subst e;simp at dX) aN (by omega) eJ) ?_
  rintro en w' ⟨rfl,rfl⟩
  have dm:∀c,I c→(w.drew.freeze ⟨m1.blk,0,none⟩ l.length).heap[c]?=w.heap[c]?:=λc hc=>a77 c (λe=>pi (e▸hc));have qE:=a77 (w:=w) (g:=m1.blk) (n:=l.length) m.blk (e3m aK);refine⟨_,I,ρ,rfl,⟨λ_ h=>h,λ_ _=>rfl,⟨?_,?_,?_,by rw[a7m];exact e2c _,λc hc=>a77 c (λe=>by subst e;exact hc.elim pi qP)⟩,?_,hn,e2c _⟩,c02 l⟩
  ·unfold World.freeze;split<;>rfl
  ·unfold World.freeze;split<;>rfl
  ·unfold World.freeze;split<;>rfl
  ·refine c4j (o1:=none) (k:=0) rel dm (by rw[a7m];exact e2c _) (λb p hp=>by rw[a7m];exact rel.dom b p hp) m hm ⟨jF,jR,?_⟩ (λo h=>by cases h);exact ORel.mono _ (λ_ h=>h) dm (λ_ _ h=>h) qE ho
 ·cases hr
end Go.RInst
/- RPo4: WriteString, and all primitives. -/
namespace Go.RInst
open Go.Proofs Go.Ax Go.RowKit
variable [PR]
theorem d5u{n:Nat}(h:n≤1000000000):a2j L.env 5 n=true:=by
 have hb:L.env.bytes 5=1:=by kernel_rfl
 simp only[a2j,hb,b46,e2d];omega
theorem c7f:L.env.und 80=some (.slice 5):=by kernel_rfl
theorem d8f:L.env.und 9=some .string:=by kernel_rfl
theorem e40:∃d,L.env.und 5=some d:=⟨.int .u8,by kernel_rfl⟩
theorem d50:L.env.zero 5=some [.int .u8 0]:=by kernel_rfl
theorem e1x:L.env.sz 5=1:=by kernel_rfl
theorem b7u{I:Nat→Prop}{w:World}{ρ:PMap}(s:List UInt8):VRels I w ρ (a1h s).flatten (Lib.strCells ⟨s.toArray⟩):=by have:=a6o (I:=I) (w:=w) (ρ:=ρ) s;simpa[Lib.strCells,a1h]using this
theorem c3q{I K:Nat→Prop}{ρ:PMap}{w w1 w2:World}{H0:a08}{m:Pl}{v':Value}{xs:List Value}{aa:List (List AV)}{k:Nat}{g:Option Nat}{cv:Value}(rel:HRel L.env.G I K ρ (a03 H0) w)(ak:H0.length=k+1)(hn:NRel ρ (k+1))(hm:ρ 0=some m)(jF:¬I m.blk)(jR:¬K m.blk)(h0:m.off=0)(hk:m.k=2)(aJ:m.room=2)
 (o8:∀b,g=some b→¬I b∧¬K b∧b≠m.blk)(dA:w2.heap[m.blk]?=some (.cells #[a35 m.blk,cv] 82 (0,0)))(cH:OnlyB w w1 m.blk none)(jx:OnlyB w1 w2 m.blk g)(hb:Buffed w1 w2 g 5 v' xs)(cP:VRels I w ρ aa.flatten xs)(oV:∀r∈aa,r.length=1)(lT:1≤k+1) :
 ∃ρ',Ret L.env I K ρ (k+1) w I ρ' (some (.trow 82 true 2 [[.ptr 0 0 0,.slice (k+1) 0 aa.length none]])::(List.replicate k none++[some (.trow 5 false 1 aa)])) (w2.setCell ⟨m.blk,1,none⟩ v'):=by
 obtain⟨g',c',rfl,oz,gC,cur,ox,fi,rI⟩:=hb.buf;have pa:=rel.dom 0 m hm;have cF:=cH.size;have iN:=jx.size;have ly:¬I g'∧¬K g'∧g'≠m.blk:=by
  rcases gC with e|e
  ·exact o8 g' e.symm
  ·exact⟨λh=>by have:=rel.imm g' h;omega,λh=>by have:=rel.kept g' h;omega,by omega⟩
 have lH:xs.length=aa.length:=by rw[←VRels.length cP,a19 oV];omega
 have bX:∀q,q<w.heap.size→q≠m.blk→some q≠g→(w2.setCell ⟨m.blk,1,none⟩ (.slice (some ⟨g',0,none⟩) xs.length c')).heap[q]?=w.heap[q]?:=by intro q hq h1 h2;rw[Below.heap_setCell _ _ _ _ h1,jx.other q (by omega) h1 h2,cH.other q hq h1 (by simp)]
 have dm:∀c,I c→(w2.setCell ⟨m.blk,1,none⟩ (.slice (some ⟨g',0,none⟩) xs.length c')).heap[c]?=w.heap[c]?:=λc hc=>bX c (rel.imm c hc) (λe=>jF (e▸hc)) (λe=>(o8 c e.symm).1 hc);have bA:(w2.setCell ⟨m.blk,1,none⟩ (.slice (some ⟨g',0,none⟩) xs.length c')).heap.size=w2.heap.size:=by simp
 have hρ1:ρ (k+1)=none:=hn (k+1) (e2c _);have gU:∀b p,ρ b=some p→(λb=>if b=k+1 then some (⟨g',0,1,cur.size⟩:Pl)else ρ b) b=some p:=by intro b p hb;show(if b=k+1 then _ else ρ b)=some p;rw[e2i (λe=>by rw[e,hρ1]at hb;cases hb)];exact hb
 have qE:=d3y (u:=.slice (some ⟨g',0,none⟩) xs.length c') dA;have rN:(w2.setCell ⟨m.blk,1,none⟩ (.slice (some ⟨g',0,none⟩) xs.length c')).heap[g']?=some (.cells cur 5 (0,0)):=by rw[Below.heap_setCell _ _ _ _ ly.2.2];exact ox
 refine⟨λb=>if b=k+1 then some ⟨g',0,1,cur.size⟩else ρ b,⟨λ_ h=>h,λb hb=>e2i (by omega),⟨?_,?_,?_,by rw[bA];omega,λc hc=>bX c (hc.elim (rel.imm c) (rel.kept c)) (λe=>by subst e;exact hc.elim jF jR) (λe=>hc.elim (o8 c e.symm).1 (o8 c e.symm).2.1)⟩,?_,?_,?_⟩⟩
 ·exact jx.os.trans cH.os
 ·exact jx.tape.trans cH.tape
 ·exact jx.output.trans cH.output
 ·refine c4j (o0:=.trow 82 true 2 [[.ptr 0 0 0,.slice (k+1) 0 aa.length none]]) (o1:=some (.trow 5 false 1 aa)) (ρ':=λb=>if b=k+1 then some (⟨g',0,1,cur.size⟩:Pl)else ρ b) (k:=k) rel dm (by rw[bA];omega) (λb p hp=>?_) m (gU 0 m hm) ⟨jF,jR,c6e qE ?_ ?_ h0 hk aJ⟩ (λo ho=>?_)
  ·rw[bA];have hp:(if b=k+1 then some (⟨g',0,1,cur.size⟩:Pl)else ρ b)=some p:=hp;split at hp
   ·cases hp;exact b15 ox
   ·have:=rel.dom b p hp;omega
  ·simp only[VRel];exact⟨m,gU 0 m hm,by simp[h0]⟩
  ·simp only[VRel];refine⟨⟨g',0,none⟩,c',by rw[lH],by omega,(λn hn=>by cases hn),.inr ⟨⟨g',0,1,cur.size⟩,by simp,by simp,by simp;omega⟩⟩
  ·cases ho;refine⟨⟨g',0,1,cur.size⟩,e3g rfl,ly.1,ly.2.1,ly.2.2,rfl,rfl,by decide,⟨cur,rN,rfl,by simp;omega,λh=>by cases h⟩,?_⟩;rw[VRows.iff];refine⟨oV,VAt.of_cells (cs:=xs) (CellsAt.of_heap rN (λj x hj=>?_)) (VRels.mono (λ_ h=>h) dm _ gU cP)⟩;rw[e55];exact rI j x hj
 ·intro b hb;simp only[b94,e2f,e74,e27]at hb;show(if b=k+1 then _ else ρ b)=none;rw[e2i (by omega)];exact hn b (by omega)
 ·simp
theorem c12{I:Nat→Prop}{w:World}{ρ:PMap}(n:Nat):VRel I w ρ (.tuple [.int .i64 n,.nilifc]) (.tuple #[.int .i64 n,.nilIface]):=by simp only[VRel];exact⟨_,rfl,by simp[VRels,VRel]⟩
theorem d52:a4h L.env 36 (primH L.env 36):=by
 have e:primH L.env 36=wsP:=rfl;rw[e];intro args H v H' hr I K ρ w ah rel hn ha;rw[a3l (by decide)];obtain⟨d5,qw⟩:=e40;unfold wsP at hr;split at hr
 ·rename_i b s t k p;rw[cond_eq_ite]at hr;split at hr
  case isFalse=>cases hr
  rename_i hc;simp only[b46,e5a,e5e,b7g]at hc;obtain⟨⟨⟨⟨⟨rfl,rfl⟩,hs⟩,iN⟩,hp⟩,iC⟩:=hc;obtain rfl:=a8c hs iN;obtain⟨m,hm,jF,jR,ho⟩:=rel.live 0 (.trow 82 true 2 [[p,.nilslice]]) rfl;obtain⟨cp,cv,hb,h1,h2,h0,hk,aJ⟩:=b62 ho;have nO:=d00 hm h0 hp h1;simp only[VRels]at ha;obtain⟨_,_,rfl,ji,c2,_,rfl,gD,rfl⟩:=ha;have gD:=c9p gD;subst gD;simp only[VRel]at ji h2;obtain⟨m',bz,rfl⟩:=ji;obtain rfl:m=m':=z9o (hm.symm.trans bz);subst h2;have ed:(Value.pointer (some ⟨m.blk,m.off+0*m.k+0,none⟩))=a35 m.blk:=by simp[h0]
  rw[ed];cases s with
  |nil=>
   cases hr;refine Calls.mono (Tryz.bWrite m.blk cp (.slice none 0 0) ⟨#[]⟩ w hb nO none (Q:=λw1 v' w2=>v' = .slice none 0 0∧w2=w1) (λw1 jG=>?_)) ?_
   ·exact⟨.slice none 0 0,w1,Go.Ax.run_append_fits (ok) c7f qw d8f rfl 80 (m:=0) (new:=#[]) rfl (by decide) (by simp[Builtin.firstCells]) (λa ha=>by cases ha) (λ_=>rfl),⟨_,_,_,rfl⟩,OnlyB.refl _ _ _,rfl,rfl,rfl⟩
   ·rintro en w' ⟨rfl,w1,v',w2,rfl,dA,cH,jx,rfl,rfl⟩
    have pa:=rel.dom 0 m hm;have bX:∀q,q<w.heap.size→q≠m.blk→(w2.setCell ⟨m.blk,1,none⟩ (.slice none 0 0)).heap[q]?=w.heap[q]?:=λq hq h1=>by rw[Below.heap_setCell _ _ _ _ h1,cH.other q hq h1 (by simp)]
    have bA:w.heap.size≤(w2.setCell ⟨m.blk,1,none⟩ (.slice none 0 0)).heap.size:=by simp;exact cH.size
    refine⟨_,I,ρ,rfl,⟨λ_ h=>h,λ_ _=>rfl,⟨cH.os,cH.tape,cH.output,bA,λc hc=>bX c (hc.elim (rel.imm c) (rel.kept c)) (λe=>by subst e;exact hc.elim jF jR)⟩,c1f rel hm bA bX λdm=>?_,hn,e2c _⟩,?_⟩
    ·refine c6e (d3y dA) ?_ ?_ h0 hk aJ
     ·simp only[VRel];exact⟨m,hm,by simp[h0]⟩
     ·simp[VRel]
    ·exact c12 0
  |cons x s=>
   cases hr;refine Calls.mono (Tryz.bWrite m.blk cp (.slice none 0 0) ⟨(x::s).toArray⟩ w hb nO none (Q:=λw1 v' w2=>Buffed w1 w2 none 5 v' (Lib.strCells ⟨(x::s).toArray⟩)) (λw1 jG=>?_)) ?_
   ·obtain⟨v',w2,ac,eJ⟩:=c24 (w:=w1) (ok) c7f d8f rfl d50 e1x (base:=none) (n:=0) (c:=0) (xs:=[]) (s:=⟨(x::s).toArray⟩) 80 rfl (λw' _=>by simp[Builtin.firstCells]) (by rw[bsz];simp) (by rw[bsz];exact d5u (by simp at iC⊢;omega)) none;obtain⟨g',c',jW,_⟩:=eJ.buf;have aq:=b15 hb;have cF:=jG.size;exact⟨v',w2,ac,⟨_,_,_,jW⟩,OnlyB.buffed eJ,eJ.other m.blk (by omega) (by simp),by simpa using eJ⟩
   ·rintro en w' ⟨rfl,w1,v',w2,rfl,dA,cH,jx,eJ⟩
    obtain⟨ρ',aB⟩:=c3q (aa:=a1h (x::s)) (k:=0) rel rfl hn hm jF jR h0 hk aJ (λb hb=>by cases hb) dA cH jx eJ (b7u _) (λr hr=>by simp only[a1h,e6q]at hr;obtain⟨_,_,rfl⟩:=hr;rfl) (by omega);have i8:(a1h (x::s)).length=(x::s).length:=by simp[a1h]
    rw[i8]at aB;exact⟨_,I,ρ',rfl,aB,by rw[bsz];exact c12 _⟩
 ·rename_i b s t k p c n u k1 aa;rw[cond_eq_ite]at hr;split at hr
  case isFalse=>cases hr
  rename_i hc;simp only[b46,e5a,e5e,b7g]at hc;obtain⟨⟨⟨⟨⟨⟨⟨⟨⟨rfl,rfl⟩,hs⟩,iN⟩,hp⟩,rfl⟩,rfl⟩,rfl⟩,rfl⟩,iC⟩:=hc;obtain rfl:=a8c hs iN;obtain⟨m,hm,jF,jR,ho⟩:=rel.live 0 (.trow 82 true 2 [[p,.slice 1 0 aa.length none]]) rfl;obtain⟨cp,cv,hb,h1,h2,h0,hk,aJ⟩:=b62 ho;have nO:=d00 hm h0 hp h1;obtain⟨m1,jl,pi,qP,g0,gk,_,⟨b6,hg,lx,tB,_⟩,og⟩:=rel.live 1 (.trow 5 false 1 aa) rfl;have aK:m1.blk≠m.blk:=λe=>by have:=rel.inj 1 0 m1 m rfl rfl jl hm e;omega
  simp only[VRels]at ha;obtain⟨_,_,rfl,ji,c2,_,rfl,gD,rfl⟩:=ha;have gD:=c9p gD;subst gD;simp only[VRel]at ji h2;obtain⟨m',bz,rfl⟩:=ji;obtain rfl:m=m':=z9o (hm.symm.trans bz);obtain⟨a,cc,rfl,aN,_,dU⟩:=h2;have ed:(Value.pointer (some ⟨m.blk,m.off+0*m.k+0,none⟩))=a35 m.blk:=by simp[h0]
  rw[ed];rw[cond_eq_ite]at hr;split at hr
  ·rename_i pQ;have bL:s=[]:=by simpa using pQ
   subst bL;cases hr;refine Calls.mono (Tryz.bWrite m.blk cp (.slice (some a) aa.length cc) ⟨#[]⟩ w hb nO none (Q:=λw1 v' w2=>v' = .slice (some a) aa.length cc∧w2=w1) (λw1 jG=>?_)) ?_
   ·exact⟨.slice (some a) aa.length cc,w1,Go.Ax.run_append_fits (ok) c7f qw d8f rfl 80 (m:=0) (new:=#[]) rfl aN (by simp[Builtin.firstCells]) (λa' me=>by simp[storeCells]) (λh=>by cases h),⟨_,_,_,rfl⟩,OnlyB.refl _ _ _,rfl,rfl,rfl⟩
   ·rintro en w' ⟨rfl,w1,v',w2,rfl,dA,cH,jx,rfl,rfl⟩
    have bX:∀q,q<w.heap.size→q≠m.blk→(w2.setCell ⟨m.blk,1,none⟩ (.slice (some a) aa.length cc)).heap[q]?=w.heap[q]?:=λq hq h1=>by rw[Below.heap_setCell _ _ _ _ h1,cH.other q hq h1 (by simp)]
    have bA:w.heap.size≤(w2.setCell ⟨m.blk,1,none⟩ (.slice (some a) aa.length cc)).heap.size:=by simp;exact cH.size
    refine⟨_,I,ρ,rfl,⟨λ_ h=>h,λ_ _=>rfl,⟨cH.os,cH.tape,cH.output,bA,λc hc=>bX c (hc.elim (rel.imm c) (rel.kept c)) (λe=>by subst e;exact hc.elim jF jR)⟩,c4k rel hm bA bX λdm=>?_,hn,e2c _⟩,?_⟩
    ·refine c6e (d3y dA) ?_ ?_ h0 hk aJ
     ·simp only[VRel];exact⟨m,hm,by simp[h0]⟩
     ·simp only[VRel];exact⟨a,cc,rfl,aN,(λn hn=>by cases hn),dU⟩
    ·exact c12 0
  rename_i pQ;cases hr;have p9:s≠[]:=by intro e;subst e;exact pQ rfl
  obtain⟨xs,iG,pJ,pI⟩:=b9g og;have iQ:cc=0∨a=⟨m1.blk,0,none⟩∧cc≤b6.size:=by
   rcases dU with h|⟨py,mK,rfl,qA⟩
   ·exact .inl h
   ·obtain rfl:m1=py:=z9o (jl.symm.trans mK);exact .inr ⟨by rw[g0];simp,by rw[g0,gk]at qA;omega⟩
  have pP:s.length≠0:=by cases s with|nil=>exact absurd rfl p9|cons _ _=>simp
  refine Calls.mono (Tryz.bWrite m.blk cp (.slice (some a) aa.length cc) ⟨s.toArray⟩ w hb nO (some m1.blk) (Q:=λw1 v' w2=>Buffed w1 w2 (some m1.blk) 5 v' (xs++Lib.strCells ⟨s.toArray⟩)) (λw1 jG=>?_)) ?_
  ·have mc:c74 w1 m1.blk 5 (if cc=0 then 0 else cc) xs:=by
    refine⟨b6,by rw[jG.other m1.blk (b15 hg) aK (by simp)];exact hg,?_,λj x hj=>?_⟩
    ·split
     ·omega
     ·rcases iQ with h|⟨_,h⟩
      ·contradiction
      ·exact h
    ·have:=pJ j x hj;rw[a1k hg]at this;exact this
   have fi:(if cc=0 then 0 else cc)=cc:=by split<;>simp_all
   rw[fi]at mc;obtain⟨v',w2,ac,eJ⟩:=c38 (w:=w1) (ok) c7f qw d8f rfl d50 e1x (a:=a) (g:=m1.blk) (c:=cc) (xs:=xs) (s:=⟨s.toArray⟩) 80 (by rw[bsz];exact pP) (iQ.imp id (λh=>h.1)) (by omega) mc (by rw[bsz,iG];exact d5u iC);rw[iG]at ac;obtain⟨g',c',jW,_⟩:=eJ.buf;have aq:=b15 hb;have cF:=jG.size;exact⟨v',w2,ac,⟨_,_,_,jW⟩,OnlyB.buffed eJ,eJ.other m.blk (by omega) (by simp;exact e3m aK),eJ⟩
  ·rintro en w' ⟨rfl,w1,v',w2,rfl,dA,cH,jx,eJ⟩
   have oV:∀r∈aa++a1h s,r.length=1:=by
    intro r hr;rcases e65.1 hr with h|h
    ·rw[VRows.iff]at og;exact og.1 r h
    ·simp only[a1h,e6q]at h;obtain⟨_,_,rfl⟩:=h;rfl
   obtain⟨ρ',aB⟩:=c3q (aa:=aa++a1h s) (k:=1) rel rfl hn hm jF jR h0 hk aJ (λb hb=>by cases hb;exact⟨pi,qP,aK⟩) dA cH jx eJ (by rw[List.flatten_append];exact VRels.append pI (b7u _)) oV (by omega);have i8:(aa++a1h s).length=aa.length+s.length:=by simp[a1h]
   rw[i8]at aB;exact⟨_,I,ρ',rfl,aB,by rw[bsz];exact c12 _⟩
 ·cases hr
theorem d70:a4h L.env 53 (primH L.env 53):=by
 have e:primH L.env 53=d2b:=rfl;rw[e];intro args H v H' hr I K ρ w ah rel hn ha;rw[a3l (by decide)];unfold d2b at hr;split at hr
 case h_2=>cases hr
 rename_i b n t k;rw[cond_eq_ite]at hr;split at hr
 case isFalse=>cases hr
 rename_i hc;simp only[b46,e5a,e2d]at hc;obtain⟨⟨⟨⟨⟨rfl,rfl⟩,hs⟩,iN⟩,ev⟩,iC⟩:=hc;obtain rfl:=a8c hs iN;cases hr;obtain⟨m,hm,jF,jR,ho⟩:=rel.live 0 (.trow 82 true 2 [[.nilptr,.nilslice]]) rfl;obtain⟨cp,cv,hb,h1,h2,h0,hk,aJ⟩:=b62 ho;simp only[VRels]at ha;obtain⟨_,_,rfl,ji,c2,_,rfl,gD,rfl⟩:=ha;simp only[VRel]at ji h1 h2 gD;obtain⟨m',bz,rfl⟩:=ji;obtain rfl:m=m':=z9o (hm.symm.trans bz);subst h1;subst h2;subst gD;have ed:(Value.pointer (some ⟨m.blk,m.off+0*m.k+0,none⟩))=a35 m.blk:=by simp[h0]
 rw[ed];obtain⟨nn,rfl⟩:∃nn:Nat,n=nn:=⟨n.toNat,by omega⟩
 refine Calls.mono (Tryz.bGrow m.blk nn w hb (by omega)) ?_
 rintro en w' ⟨rfl,h|⟨_,cH,cs,dA,dp⟩⟩
 ·omega
 have gr:VRel I w' ρ (.tuple []) (.tuple #[]):=by simp only[VRel];exact⟨_,rfl,by simp[VRels]⟩
 let v':Value:=.slice (some ⟨(w.setCell ⟨m.blk,0,none⟩ (a35 m.blk)).drew.heap.size,0,none⟩) 0 cs.size
 let w1:World:=(w.setCell ⟨m.blk,0,none⟩ (a35 m.blk)).setCell ⟨m.blk,1,none⟩ v'
 have nH:(w.setCell ⟨m.blk,0,none⟩ (a35 m.blk)).drew.heap.size=w.heap.size:=by show(w.setCell ⟨m.blk,0,none⟩ (a35 m.blk)).heap.size=_;simp
 have sW:w1.heap.size=w.heap.size:=by show(World.setCell _ _ _).heap.size=_;simp
 have du:w1.heap[m.blk]?=some (.cells #[a35 m.blk,v'] 82 (0,0)):=d3y (e0w hb);have ne:∀k,k≠m.blk→w1.heap[k]?=w.heap[k]?:=λk hk=>by show(World.setCell _ _ _).heap[k]?=_;rw[Below.heap_setCell _ _ _ _ hk,Below.heap_setCell _ _ _ _ hk]
 have eR:∀k,k≠m.blk→(w.setCell ⟨m.blk,0,none⟩ (a35 m.blk)).drew.heap[k]?=w.heap[k]?:=λk hk=>by show(World.setCell _ _ _).heap[k]?=_;rw[Below.heap_setCell _ _ _ _ hk]
 have o1:OnlyB w w1 m.blk none:=(OnlyB.setB w m.blk 0 none (a35 m.blk)).trans (OnlyB.setB _ m.blk 1 none v');have jJ:=cH.size;have o2:OnlyB w1 w' m.blk none:=⟨cH.os,cH.tape,cH.output,by omega,λk hk h1 h2=>by rw[cH.other k (by omega) h1 h2,eR k h1,ne k h1]⟩
 have tX:Buffed w1 w' none 5 v' []:=by
  refine⟨cH.os,cH.tape,cH.output,by omega,λk hk _=>?_,w.heap.size,cs.size,?_,by simp,.inr (by omega),cs,by rw[←nH];exact dp,e2c _,λj x hj=>by simp at hj⟩
  ·by_cases lU:k=m.blk
   ·rw[lU,du];exact dA
   ·rw[cH.other k (by omega) lU (by simp),eR k lU,ne k lU]
  ·show v'=_;simp only[v',nH,e27]
 obtain⟨ρ',aB⟩:=c3q (aa:=[]) (k:=0) rel rfl hn hm jF jR h0 hk aJ (λb hb=>by cases hb) (w2:=w') (cv:=v') dA o1 o2 tX (by simp[VRels]) (λr hr=>by cases hr) (by omega);have dT:w'.setCell ⟨m.blk,1,none⟩ v'=w':=by
  have hx:(w'.setCell ⟨m.blk,1,none⟩ v').heap=w'.heap:=by
   apply Array.ext_getElem?;intro i;by_cases hi:i=m.blk
   ·rw[hi,d3y (u:=v') dA];exact dA.symm
   ·exact Below.heap_setCell _ _ _ _ hi
  cases w';simp only[World.setCell]at hx⊢;rw[hx]
 rw[dT]at aB;exact⟨_,I,ρ',rfl,aB,by simp only[VRel];exact⟨_,rfl,by simp[VRels]⟩⟩
theorem d1s(gt:a4h L.env 19 (primH L.env 19)):d0q L:=by
 intro f args H v H1 hp;by_cases sj:f=19
 ·subst sj;exact gt
 by_cases sb:f=37
 ·subst sb;exact d6u
 by_cases rW:f=73
 ·subst rW;exact d7r
 by_cases sf:f=30
 ·subst sf;exact d59
 by_cases se:f=36
 ·subst se;exact d52
 by_cases r8:f=38
 ·subst r8;exact d6l
 by_cases rZ:f=39
 ·subst rZ;exact d5e
 by_cases sh:f=24
 ·subst sh;exact d25
 by_cases rX:f=70
 ·subst rX;exact d17
 by_cases rY:f=53
 ·subst rY;exact d70
 exfalso;have:primH L.env f args H=none:=by refine b5h ?_;show c4t PR.pr f args=none;simp only[c4t,c3l];rw[e3o.2 sj,e3o.2 sb,e3o.2 rW,e3o.2 sf,e3o.2 se,e3o.2 r8,e3o.2 rZ,e3o.2 sh,e3o.2 rX,e3o.2 rY];rfl
 rw[this]at hp;cases hp
theorem dr(gt:a4h L.env 19 (primH L.env 19)):DrOk L.env:=laidOk.drawnP (d1s gt)
end Go.RInst
/- No fact is given. -/
namespace Go.RInst
open Go.Proofs Go.Ax
set_option maxRecDepth 100000
def Mf:List Fact:=[]
theorem no(g:Nat)(h:(Mf.all λy=>!Nat.beq y.g g)=true):∀y∈Mf,y.g≠g:=by intro y hy;cases hy
end Go.RInst
