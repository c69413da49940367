/- RPrm: what the primitives of this seat answer. -/
import Derived.Test.YtmbmjfjagololaaGreatDoorAxE
import Derived.Lib.ItoaNum
import Derived.Lib.Join
import Derived.Lib.Strings
import Derived.Shelf.Strings.Count
import Derived.Test.YtmbmjfjagololaaGreatDoorAxC
import Derived.Test.YtmbmjfjagololaaGreatDoorChecked
import Derived.KernelRfl
import Derived.Test.YtmbmjfjagololaaGreatDoorAxD
import Derived.Shelf.Strings.Builder2
import Derived.Lib.AppendZeros
import Derived.Test.YtmbmjfjagololaaGreatDoorProg
import Derived.Shelf.Strings.OnBuilder
import Derived.Shelf.Strconv.Itoa3
import Derived.Shelf.Strings.Search1
import Derived.Shelf.Strings.Search2
import Derived.Shelf.Strings.Search3
import Derived.Shelf.Sort.Plain
import Derived.Shelf.Strings.Prefix
set_option linter.unusedSectionVars false
set_option linter.unusedSimpArgs false
set_option linter.unusedVariables false
namespace Go.RInst
open Go.Ax
def a7a:AV→Bool
 |.nilptr=>true
 |.ptr b i o=>Nat.beq b 0&&(Nat.beq i 0&&Nat.beq o 0)
 |_=>false
def a1f(s:List UInt8):List (List AV):=s.map λb=>[.int .u8 b.toNat]
def unB:List (List AV)→Option (List UInt8)
 | []=>some []
 | [.int .u8 n]::r=>bif decide (0≤n)&&decide (n<256)then(unB r).map (UInt8.ofNat n.toNat :: ·)else none
 |_=>none
theorem b2h:∀s:List UInt8,unB (a1f s)=some s
 | []=>rfl
 |b::s=>by
  have h:=b.toNat_lt;have e:UInt8.ofNat ((b.toNat:Int).toNat)=b:=by simp
  show(bif decide ((0:Int)≤(b.toNat:Int))&&decide ((b.toNat:Int)<256)then(unB (a1f s)).map (UInt8.ofNat ((b.toNat:Int).toNat) :: ·)else none)=_;rw[b2h s,e];have h1:decide ((0:Int)≤(b.toNat:Int))=true:=by simp
  have h2:decide ((b.toNat:Int)<256)=true:=by simp;omega
  rw[h1,h2];rfl
theorem c3p:∀{rows:List (List AV)} {s:List UInt8},unB rows=some s→rows=a1f s
 | [],s,h=>by cases h;rfl
 |r::rows,s,h=>by
  unfold unB at h;split at h
  ·rename_i he;cases he
  ·rename_i n r' he;cases he;rw[cond_eq_ite]at h;split at h
   case isFalse=>cases h
   rename_i hc;simp only[Bool.and_eq_true,decide_eq_true_eq]at hc;obtain⟨s',hs',rfl⟩:=Option.map_eq_some_iff.1 h;rw[c3p hs'];show _=[AV.int .u8 _]::a1f s'
   congr 3
   have:(UInt8.ofNat n.toNat).toNat=n.toNat:=by simp;omega
   rw[this];omega
  ·cases h
def a1s(l:List (List UInt8)):List (List AV):=l.map λs=>[.str s]
def unS:List (List AV)→Option (List (List UInt8))
 | []=>some []
 | [.str s]::r=>(unS r).map (s :: ·)
 |_=>none
theorem b1w:∀l:List (List UInt8),unS (a1s l)=some l
 | []=>rfl
 |s::l=>by show(unS (a1s l)).map _=_;rw[b1w l];rfl
theorem b6b:∀{rows:List (List AV)} {l:List (List UInt8)},unS rows=some l→rows=a1s l
 | [],s,h=>by cases h;rfl
 |r::rows,s,h=>by
  unfold unS at h;split at h
  ·rename_i he;cases he
  ·rename_i n r' he;cases he;obtain⟨s',hs',rfl⟩:=Option.map_eq_some_iff.1 h;rw[b6b hs'];rfl
  ·cases h
def b44:Nat:=1000000000
def leS:List UInt8→List UInt8→Bool
 | [],_=>true
 |_::_,[]=>false
 |a::r,b::s=>bif Nat.blt a.toNat b.toNat then true else bif Nat.beq a.toNat b.toNat then leS r s else false
def d1o(x:List UInt8):List (List UInt8)→List (List UInt8)
 | []=>[x]
 |y::l=>bif leS x y then x::y::l else y::d1o x l
def a49:List (List UInt8)→List (List UInt8)
 | []=>[]
 |x::l=>d1o x (a49 l)
theorem c9i:∀x y:List UInt8,leS x y=decide (x≤y)
 | [],y=>by simp[leS]
 |a::r,[]=>by simp[leS]
 |a::r,b::s=>by
  have h:=c9i r s;simp only[leS,cond_eq_ite,Nat.blt_eq,Nat.beq_eq];by_cases h1:a<b
  ·have h2:a.toNat<b.toNat:=UInt8.lt_iff_toNat_lt.1 h1;rw[if_pos h2];simp[List.cons_le_cons_iff,h1]
  ·have h2:¬a.toNat<b.toNat:=λh=>h1 (UInt8.lt_iff_toNat_lt.2 h);rw[if_neg h2];by_cases h3:a=b
   ·subst h3;rw[if_pos rfl,h];simp[List.cons_le_cons_iff]
   ·rw[if_neg (λe=>h3 (UInt8.toNat_inj.1 e))];simp[List.cons_le_cons_iff,h1,h3]
theorem b3b(x:List UInt8):∀l,(d1o x l).Perm (x::l)
 | []=>List.Perm.refl _
 |y::l=>by
  simp only[d1o,cond_eq_ite];split
  ·exact List.Perm.refl _
  ·exact((b3b x l).cons y).trans (List.Perm.swap ..)
theorem a66:∀l,(a49 l).Perm l
 | []=>List.Perm.refl _
 |x::l=>(b3b x _).trans ((a66 l).cons x)
theorem b3a(x:List UInt8):∀{l:List (List UInt8)},l.Pairwise (·≤ ·)→(d1o x l).Pairwise (·≤ ·)
 | [],_=>by simp[d1o]
 |y::l,h=>by
  have h:=List.pairwise_cons.1 h;simp only[d1o,cond_eq_ite,c9i,decide_eq_true_eq];split
  ·rename_i hxy;refine List.pairwise_cons.2 ⟨λz hz=>?_,List.pairwise_cons.2 h⟩;rcases List.mem_cons.1 hz with rfl|hz
   ·exact hxy
   ·exact List.le_trans hxy (h.1 z hz)
  ·rename_i hxy;refine List.pairwise_cons.2 ⟨λz hz=>?_,b3a x h.2⟩;rcases List.mem_cons.1 ((b3b x l).mem_iff.1 hz)with rfl|hz
   ·exact(List.le_total y z).resolve_right hxy
   ·exact h.1 z hz
theorem b1c:∀l,(a49 l).Pairwise (·≤ ·)
 | []=>List.Pairwise.nil
 |x::l=>b3a x (b1c l)
theorem b9l(l:List (List UInt8)):l.mergeSort (λx y=>decide (x≤y))=a49 l:=by
 have h1:(l.mergeSort λx y=>decide (x≤y)).Pairwise (·≤ ·):=by have:=List.pairwise_mergeSort (le:=λx y:List UInt8=>decide (x≤y)) (λa b c h1 h2=>by simp at *;exact List.le_trans h1 h2) (λa b=>by simpa using List.le_total a b) l;exact this.imp (λh=>by simpa using h)
 exact List.Perm.eq_of_pairwise (λa b _ _ h1 h2=>List.le_antisymm h1 h2) h1 (b1c l) ((List.mergeSort_perm l _).trans (a66 l).symm)
def wsP:List AV→a08→Option (AV×a08)
 | [b,.str s],[some (.trow t true k [[p,.nilslice]])]=>bif Nat.beq t 82&&Nat.beq k 2&&a7a b && !(a5d b .nilptr)&&a7a p&&Nat.ble s.length b44 then(match s with
  | []=>some (.tuple [.int .i64 0,.nilifc],[some (.trow 82 true 2 [[.ptr 0 0 0,.nilslice]])])
  |_=>some (.tuple [.int .i64 s.length,.nilifc],[some (.trow 82 true 2 [[.ptr 0 0 0,.slice 1 0 s.length none]]),some (.trow 5 false 1 (a1f s))]))else none
 | [b,.str s],[some (.trow t true k [[p,.slice c 0 n none]]),some (.trow u false k1 rows)]=>bif Nat.beq t 82&&Nat.beq k 2&&a7a b && !(a5d b .nilptr)&&a7a p&&Nat.beq c 1&&Nat.beq u 5&&Nat.beq k1 1&&Nat.beq n rows.length&&Nat.ble (n+s.length) b44 then
  bif s.isEmpty then some (.tuple [.int .i64 0,.nilifc],[some (.trow 82 true 2 [[.ptr 0 0 0,.slice 1 0 n none]]),some (.trow 5 false 1 rows)])else some (.tuple [.int .i64 s.length,.nilifc],[some (.trow 82 true 2 [[.ptr 0 0 0,.slice 2 0 (n+s.length) none]]),none,some (.trow 5 false 1 (rows++a1f s))])else none
 |_,_=>none
def c5e:List AV→a08→Option (AV×a08)
 | [b,.int .i64 n],[some (.trow t true k [[.nilptr,.nilslice]])]=>bif Nat.beq t 82&&Nat.beq k 2&&a7a b && !(a5d b .nilptr)&&decide (0<n)&&decide (n≤1000000000)then
  some (.tuple [],[some (.trow 82 true 2 [[.ptr 0 0 0,.slice 1 0 0 none]]),some (.trow 5 false 1 [])])else none
 |_,_=>none
def e0u:List AV→a08→Option (AV×a08)
 | [b],some (.trow t true k [[p,v]])::H=>bif Nat.beq t 82&&Nat.beq k 2&&a7a b && !(a5d b .nilptr)then(match v with
  |.nilslice=>some (.int .i64 0,some (.trow t true k [[p,v]])::H)
  |.slice _ _ n _=>some (.int .i64 n,some (.trow t true k [[p,v]])::H)
  |_=>none)else none
 |_,_=>none
def d0c:List AV→a08→Option (AV×a08)
 | [b],[some (.trow t true k [[p,.nilslice]])]=>bif Nat.beq t 82&&Nat.beq k 2&&a7a b && !(a5d b .nilptr)then some (.str [],[some (.trow t true k [[p,.nilslice]])])else none
 | [b],[some (.trow t true k [[p,.slice c 0 n none]]),some (.trow u false k1 rows)]=>bif Nat.beq t 82&&Nat.beq k 2&&a7a b && !(a5d b .nilptr)&&Nat.beq c 1&&Nat.beq u 5&&Nat.beq k1 1&&Nat.beq n rows.length&&Nat.blt 0 n&&Nat.ble n b44 then
  (unB rows).map λs=>(.str s,[some (.trow t true k [[p,.slice c 0 n none]]),none])else none
 |_,_=>none
def okJ(l:List (List UInt8))(sep:List UInt8):Bool:=Nat.ble l.length b44&&Nat.ble (Lib.join l sep).length b44
def c00:List AV→a08→Option (AV×a08)
 | [.slice c o n cap,.str sep],[some (.row k rows)]=>bif Nat.beq c 0&&Nat.beq k 1&&Nat.ble (o+n) rows.length&&Nat.blt 0 n then(match unS ((rows.drop o).take n)with
  |some l=>bif okJ l sep then some (.str (Lib.join l sep),[some (.row k rows)])else none
  |none=>none)else none
 | [.islice rows cap,.str sep],[]=>bif Nat.blt 0 rows.length then(match unS rows with
  |some l=>bif okJ l sep then some (.str (Lib.join l sep),[])else none
  |none=>none)else none
 |_,_=>none
def c44:List AV→a08→Option (AV×a08)
 | [.slice c 0 n cap],[some (.row k rows)]=>bif Nat.beq c 0&&Nat.beq k 1&&Nat.beq n rows.length&&Nat.blt 0 n&&Nat.ble n b44 then(unS rows).map λl=>(.tuple [],[some (.row 1 (a1s (a49 l)))])else none
 |_,_=>none
def d3s:List AV→Option (AV×a08)
 | [.int .i64 n]=>bif decide (0≤n)&&decide (n≤1000000000)then some (.str (Lib.itoa n),[])else none
 |_=>none
def d97:List AV→Option (AV×a08)
 | [.str s,.str [c]]=>some (.int .i64 (Lib.countByte s c),[])
 |_=>none
def d7w:List AV→Option (AV×a08)
 | [.str s,.str p]=>bif Nat.ble s.length b44 then some (.str (Lib.trimSuffix s p),[])else none
 |_=>none
class PR where
 pr:List AV→Option (AV×a08)
def b8g:List AV→Bool
 | [.slice _ _ n _,.str _]=>Nat.beq n 0
 |_=>false
def c4l(pr:List AV→Option (AV×a08))(f:Nat)(a:List AV):Option (AV×a08):=
 bif Nat.beq f 19 then pr a else bif Nat.beq f 37 then d3s a else bif Nat.beq f 73 then d97 a else bif Nat.beq f 30 then d7w a
 else bif Nat.beq f 36||(Nat.beq f 38||(Nat.beq f 39||((Nat.beq f 24 && !b8g a)||(Nat.beq f 70||Nat.beq f 53))))then some (.junk,[none])else none
def d5o(f:Nat)(a:List AV)(H:a08):Option (AV×a08):=bif Nat.beq f 36 then wsP a H else bif Nat.beq f 38 then e0u a H else bif Nat.beq f 39 then d0c a H else bif Nat.beq f 24 then c00 a H else bif Nat.beq f 70 then c44 a H else bif Nat.beq f 53 then c5e a H else none
end Go.RInst
/- The evaluator's tables for this program (printed by mkinst.py). -/
namespace Go.RInst
open Go.Proofs Go.Ax
set_option maxRecDepth 100000
def a8d(k:IntKind)(l:List Int):List AV:=l.map (.int k)
noncomputable def TT:Tab TypeInfo:=(.node (.node (.node (.node (.node (.node (.node (.node .nil 0 Tryz.t0 .nil) 1 Tryz.t1 .nil) 2 Tryz.t2 (.node (.node .nil 3 Tryz.t3 .nil) 4 Tryz.t4 .nil)) 5 Tryz.t5 (.node (.node (.node .nil 6 Tryz.t6 .nil) 7 Tryz.t7 .nil) 8 Tryz.t8 (.node (.node .nil 9 Tryz.t9 .nil) 10 Tryz.t10 .nil))) 11 Tryz.t11 (.node (.node (.node (.node .nil 12 Tryz.t12 .nil) 13 Tryz.t13 .nil) 14 Tryz.t14 (.node (.node .nil 15 Tryz.t15 .nil) 16 Tryz.t16 .nil)) 17 Tryz.t17 (.node (.node (.node .nil 18 Tryz.t18 .nil) 19 Tryz.t19 .nil) 20 Tryz.t20 (.node (.node .nil 21 Tryz.t21 .nil) 22 Tryz.t22 .nil)))) 23 Tryz.t23 (.node (.node (.node (.node (.node .nil 24 Tryz.t24 .nil) 25 Tryz.t25 .nil) 26 Tryz.t26 (.node (.node .nil 27 Tryz.t27 .nil) 28 Tryz.t28 .nil)) 29 Tryz.t29 (.node (.node (.node .nil 30 Tryz.t30 .nil) 31 Tryz.t31 .nil) 32 Tryz.t32 (.node (.node .nil 33 Tryz.t33 .nil) 34 Tryz.t34 .nil))) 35 Tryz.t35 (.node (.node (.node (.node .nil 36 Tryz.t36 .nil) 37 Tryz.t37 .nil) 38 Tryz.t38 (.node (.node .nil 39 Tryz.t39 .nil) 40 Tryz.t40 .nil)) 41 Tryz.t41 (.node (.node (.node .nil 42 Tryz.t42 .nil) 43 Tryz.t43 .nil) 44 Tryz.t44 (.node .nil 45 Tryz.t45 .nil))))) 46 Tryz.t46 (.node (.node (.node (.node (.node (.node .nil 47 Tryz.t47 .nil) 48 Tryz.t48 .nil) 49 Tryz.t49 (.node (.node .nil 50 Tryz.t50 .nil) 51 Tryz.t51 .nil)) 52 Tryz.t52 (.node (.node (.node .nil 53 Tryz.t53 .nil) 54 Tryz.t54 .nil) 55 Tryz.t55 (.node (.node .nil 56 Tryz.t56 .nil) 57 Tryz.t57 .nil))) 58 Tryz.t58 (.node (.node (.node (.node .nil 59 Tryz.t59 .nil) 60 Tryz.t60 .nil) 61 Tryz.t61 (.node (.node .nil 62 Tryz.t62 .nil) 63 Tryz.t63 .nil)) 64 Tryz.t64 (.node (.node (.node .nil 65 Tryz.t65 .nil) 66 Tryz.t66 .nil) 67 Tryz.t67 (.node (.node .nil 68 Tryz.t68 .nil) 69 Tryz.t69 .nil)))) 70 Tryz.t70 (.node (.node (.node (.node (.node .nil 71 Tryz.t71 .nil) 72 Tryz.t72 .nil) 73 Tryz.t73 (.node (.node .nil 74 Tryz.t74 .nil) 75 Tryz.t75 .nil)) 76 Tryz.t76 (.node (.node (.node .nil 77 Tryz.t77 .nil) 78 Tryz.t78 .nil) 79 Tryz.t79 (.node (.node .nil 80 Tryz.t80 .nil) 81 Tryz.t81 .nil))) 82 Tryz.t82 (.node (.node (.node (.node .nil 83 Tryz.t83 .nil) 84 Tryz.t84 .nil) 85 Tryz.t85 (.node (.node .nil 86 Tryz.t86 .nil) 87 Tryz.t87 .nil)) 88 Tryz.t88 (.node (.node (.node .nil 89 Tryz.t89 .nil) 90 Tryz.t90 .nil) 91 Tryz.t91 (.node .nil 92 Tryz.t92 .nil)))))) 93 Tryz.t93 (.node (.node (.node (.node (.node (.node (.node .nil 94 Tryz.t94 .nil) 95 Tryz.t95 .nil) 96 Tryz.t96 (.node (.node .nil 97 Tryz.t97 .nil) 98 Tryz.t98 .nil)) 99 Tryz.t99 (.node (.node (.node .nil 100 Tryz.t100 .nil) 101 Tryz.t101 .nil) 102 Tryz.t102 (.node (.node .nil 103 Tryz.t103 .nil) 104 Tryz.t104 .nil))) 105 Tryz.t105 (.node (.node (.node (.node .nil 106 Tryz.t106 .nil) 107 Tryz.t107 .nil) 108 Tryz.t108 (.node (.node .nil 109 Tryz.t109 .nil) 110 Tryz.t110 .nil)) 111 Tryz.t111 (.node (.node (.node .nil 112 Tryz.t112 .nil) 113 Tryz.t113 .nil) 114 Tryz.t114 (.node (.node .nil 115 Tryz.t115 .nil) 116 Tryz.t116 .nil)))) 117 Tryz.t117 (.node (.node (.node (.node (.node .nil 118 Tryz.t118 .nil) 119 Tryz.t119 .nil) 120 Tryz.t120 (.node (.node .nil 121 Tryz.t121 .nil) 122 Tryz.t122 .nil)) 123 Tryz.t123 (.node (.node (.node .nil 124 Tryz.t124 .nil) 125 Tryz.t125 .nil) 126 Tryz.t126 (.node (.node .nil 127 Tryz.t127 .nil) 128 Tryz.t128 .nil))) 129 Tryz.t129 (.node (.node (.node (.node .nil 130 Tryz.t130 .nil) 131 Tryz.t131 .nil) 132 Tryz.t132 (.node (.node .nil 133 Tryz.t133 .nil) 134 Tryz.t134 .nil)) 135 Tryz.t135 (.node (.node (.node .nil 136 Tryz.t136 .nil) 137 Tryz.t137 .nil) 138 Tryz.t138 (.node .nil 139 Tryz.t139 .nil))))) 140 Tryz.t140 (.node (.node (.node (.node (.node (.node .nil 141 Tryz.t141 .nil) 142 Tryz.t142 .nil) 143 Tryz.t143 (.node (.node .nil 144 Tryz.t144 .nil) 145 Tryz.t145 .nil)) 146 Tryz.t146 (.node (.node (.node .nil 147 Tryz.t147 .nil) 148 Tryz.t148 .nil) 149 Tryz.t149 (.node (.node .nil 150 Tryz.t150 .nil) 151 Tryz.t151 .nil))) 152 Tryz.t152 (.node (.node (.node (.node .nil 153 Tryz.t153 .nil) 154 Tryz.t154 .nil) 155 Tryz.t155 (.node (.node .nil 156 Tryz.t156 .nil) 157 Tryz.t157 .nil)) 158 Tryz.t158 (.node (.node (.node .nil 159 Tryz.t159 .nil) 160 Tryz.t160 .nil) 161 Tryz.t161 (.node (.node .nil 162 Tryz.t162 .nil) 163 Tryz.t163 .nil)))) 164 Tryz.t164 (.node (.node (.node (.node (.node .nil 165 Tryz.t165 .nil) 166 Tryz.t166 .nil) 167 Tryz.t167 (.node (.node .nil 168 Tryz.t168 .nil) 169 Tryz.t169 .nil)) 170 Tryz.t170 (.node (.node (.node .nil 171 Tryz.t171 .nil) 172 Tryz.t172 .nil) 173 Tryz.t173 (.node (.node .nil 174 Tryz.t174 .nil) 175 Tryz.t175 .nil))) 176 Tryz.t176 (.node (.node (.node (.node .nil 177 Tryz.t177 .nil) 178 Tryz.t178 .nil) 179 Tryz.t179 (.node (.node .nil 180 Tryz.t180 .nil) 181 Tryz.t181 .nil)) 182 Tryz.t182 (.node (.node (.node .nil 183 Tryz.t183 .nil) 184 Tryz.t184 .nil) 185 Tryz.t185 (.node .nil 186 Tryz.t186 .nil)))))))
noncomputable def FT:Tab Func:=(.node (.node (.node (.node (.node (.node (.node (.node .nil 0 Tryz.f0 .nil) 1 Tryz.f1 .nil) 2 Tryz.f2 (.node .nil 3 Tryz.f3 .nil)) 4 Tryz.f4 (.node (.node (.node .nil 5 Tryz.f5 .nil) 6 Tryz.f6 .nil) 7 Tryz.f7 (.node .nil 8 Tryz.f8 .nil))) 9 Tryz.f9 (.node (.node (.node (.node .nil 10 Tryz.f10 .nil) 11 Tryz.f11 .nil) 12 Tryz.f12 (.node .nil 13 Tryz.f13 .nil)) 14 Tryz.f14 (.node (.node (.node .nil 15 Tryz.f15 .nil) 16 Tryz.f16 .nil) 17 Tryz.f17 (.node .nil 18 Tryz.f18 .nil)))) 19 Tryz.f19 (.node (.node (.node (.node (.node .nil 20 Tryz.f20 .nil) 21 Tryz.f21 .nil) 22 Tryz.f22 (.node .nil 23 Tryz.f23 .nil)) 24 Tryz.f24 (.node (.node (.node .nil 25 Tryz.f25 .nil) 26 Tryz.f26 .nil) 27 Tryz.f27 (.node .nil 28 Tryz.f28 .nil))) 29 Tryz.f29 (.node (.node (.node (.node .nil 30 Tryz.f30 .nil) 31 Tryz.f31 .nil) 32 Tryz.f32 (.node .nil 33 Tryz.f33 .nil)) 34 Tryz.f34 (.node (.node (.node .nil 35 Tryz.f35 .nil) 36 Tryz.f36 .nil) 37 Tryz.f37 (.node .nil 38 Tryz.f38 .nil))))) 39 Tryz.f39 (.node (.node (.node (.node (.node (.node .nil 40 Tryz.f40 .nil) 41 Tryz.f41 .nil) 42 Tryz.f42 (.node .nil 43 Tryz.f43 .nil)) 44 Tryz.f44 (.node (.node (.node .nil 45 Tryz.f45 .nil) 46 Tryz.f46 .nil) 47 Tryz.f47 (.node .nil 48 Tryz.f48 .nil))) 49 Tryz.f49 (.node (.node (.node (.node .nil 50 Tryz.f50 .nil) 51 Tryz.f51 .nil) 52 Tryz.f52 (.node .nil 53 Tryz.f53 .nil)) 54 Tryz.f54 (.node (.node (.node .nil 55 Tryz.f55 .nil) 56 Tryz.f56 .nil) 57 Tryz.f57 (.node .nil 58 Tryz.f58 .nil)))) 59 Tryz.f59 (.node (.node (.node (.node (.node .nil 60 Tryz.f60 .nil) 61 Tryz.f61 .nil) 62 Tryz.f62 (.node .nil 63 Tryz.f63 .nil)) 64 Tryz.f64 (.node (.node (.node .nil 65 Tryz.f65 .nil) 66 Tryz.f66 .nil) 67 Tryz.f67 (.node .nil 68 Tryz.f68 .nil))) 69 Tryz.f69 (.node (.node (.node (.node .nil 70 Tryz.f70 .nil) 71 Tryz.f71 .nil) 72 Tryz.f72 (.node .nil 73 Tryz.f73 .nil)) 74 Tryz.f74 (.node (.node .nil 75 Tryz.f75 .nil) 76 Tryz.f76 (.node .nil 77 Tryz.f77 .nil)))))) 78 Tryz.f78 (.node (.node (.node (.node (.node (.node (.node .nil 79 Tryz.f79 .nil) 80 Tryz.f80 .nil) 81 Tryz.f81 (.node .nil 82 Tryz.f82 .nil)) 83 Tryz.f83 (.node (.node (.node .nil 84 Tryz.f84 .nil) 85 Tryz.f85 .nil) 86 Tryz.f86 (.node .nil 87 Tryz.f87 .nil))) 88 Tryz.f88 (.node (.node (.node (.node .nil 89 Tryz.f89 .nil) 90 Tryz.f90 .nil) 91 Tryz.f91 (.node .nil 92 Tryz.f92 .nil)) 93 Tryz.f93 (.node (.node (.node .nil 94 Tryz.f94 .nil) 95 Tryz.f95 .nil) 96 Tryz.f96 (.node .nil 97 Tryz.f97 .nil)))) 98 Tryz.f98 (.node (.node (.node (.node (.node .nil 99 Tryz.f99 .nil) 100 Tryz.f100 .nil) 101 Tryz.f101 (.node .nil 102 Tryz.f102 .nil)) 103 Tryz.f103 (.node (.node (.node .nil 104 Tryz.f104 .nil) 105 Tryz.f105 .nil) 106 Tryz.f106 (.node .nil 107 Tryz.f107 .nil))) 108 Tryz.f108 (.node (.node (.node (.node .nil 109 Tryz.f109 .nil) 110 Tryz.f110 .nil) 111 Tryz.f111 (.node .nil 112 Tryz.f112 .nil)) 113 Tryz.f113 (.node (.node .nil 114 Tryz.f114 .nil) 115 Tryz.f115 (.node .nil 116 Tryz.f116 .nil))))) 117 Tryz.f117 (.node (.node (.node (.node (.node (.node .nil 118 Tryz.f118 .nil) 119 Tryz.f119 .nil) 120 Tryz.f120 (.node .nil 121 Tryz.f121 .nil)) 122 Tryz.f122 (.node (.node (.node .nil 123 Tryz.f123 .nil) 124 Tryz.f124 .nil) 125 Tryz.f125 (.node .nil 126 Tryz.f126 .nil))) 127 Tryz.f127 (.node (.node (.node (.node .nil 128 Tryz.f128 .nil) 129 Tryz.f129 .nil) 130 Tryz.f130 (.node .nil 131 Tryz.f131 .nil)) 132 Tryz.f132 (.node (.node (.node .nil 133 Tryz.f133 .nil) 134 Tryz.f134 .nil) 135 Tryz.f135 (.node .nil 136 Tryz.f136 .nil)))) 137 Tryz.f137 (.node (.node (.node (.node (.node .nil 138 Tryz.f138 .nil) 139 Tryz.f139 .nil) 140 Tryz.f140 (.node .nil 141 Tryz.f141 .nil)) 142 Tryz.f142 (.node (.node (.node .nil 143 Tryz.f143 .nil) 144 Tryz.f144 .nil) 145 Tryz.f145 (.node .nil 146 Tryz.f146 .nil))) 147 Tryz.f147 (.node (.node (.node (.node .nil 148 Tryz.f148 .nil) 149 Tryz.f149 .nil) 150 Tryz.f150 (.node .nil 151 Tryz.f151 .nil)) 152 Tryz.f152 (.node (.node .nil 153 Tryz.f153 .nil) 154 Tryz.f154 (.node .nil 155 Tryz.f155 .nil)))))))
def KT:Tab (List (Nat×List Nat)):=(.node (.node (.node (.node (.node (.node .nil 3 [(0,[5,6,8,10,11,12,13,14,15,16]),(2,[5,8,10,11,15,19,20]),(4,[5,8,10,13,23,24,25])] .nil) 4 [(0,[3,4])] (.node .nil 7 [(0,[3,4,6,8,10,16,17]),(2,[3,4,6,8,10,16,17,18]),(4,[4,8,16,19])] .nil)) 9 [(0,[1,2,3,4]),(2,[1,2,3,5]),(4,[1,2,3,11]),(6,[1,2,3,11,12,13,14])] (.node (.node .nil 10 [(0,[5,14,15,16])] .nil) 11 [(1,[8,27,28,29]),(3,[8,10,27,28,29,34,35])] .nil)) 12 [(0,[1,3,10,11,12,30,31,32])] (.node (.node (.node .nil 13 [(0,[1,3,10,11,26,27,28])] .nil) 15 [(0,[1,2,3,4,9,10,11])] .nil) 17 [(0,[1,2,3,4])] (.node (.node .nil 18 [(0,[1,5,6,25,26,27]),(2,[1,5,6,42,43,44]),(4,[1,5,6,12,42,43,44,61,62,63]),(6,[1,5,6,78,79,80])] .nil) 19 [(0,[2,3,4,5,17,18,19])] .nil))) 21 [(0,[1,3,4,29,30,31]),(2,[1,3,4,45,46,47]),(4,[1,3,4,9,61,62,63])] (.node (.node (.node (.node .nil 22 [(0,[3,4,5]),(2,[3,4,5,6,7,8])] .nil) 24 [(1,[0,1,5,39,40,41]),(3,[1,8,63,64,65])] .nil) 25 [(0,[1,3,4]),(2,[1,3,4,5]),(4,[1,3,6]),(6,[1,3,6,7,8]),(8,[1,3,9,10]),(10,[1,3,9,10,11,12])] (.node (.node .nil 26 [(0,[2,5,25,26,27])] .nil) 28 [(0,[0,3])] .nil)) 45 [(0,[0,1,12,13])] (.node (.node (.node .nil 46 [(0,[0,1,12,13])] .nil) 47 [(0,[0,1,12,13])] .nil) 50 [(0,[2,39,40,41])] (.node (.node .nil 52 [(0,[0,1,2,3,9,10])] .nil) 58 [(0,[0,1,2,10,11,52,53]),(2,[0,2,10,11,77,78])] .nil)))) 63 [(0,[0,1,5,6])] (.node (.node (.node (.node (.node .nil 66 [(0,[0,1,4,13,14,15])] .nil) 71 [(0,[0,3]),(2,[0,3,4,5])] (.node .nil 72 [(0,[0,1,6,7])] .nil)) 73 [(0,[0,1,5])] (.node (.node .nil 81 [(0,[0,1,7,8])] .nil) 84 [(0,[0,3,24,25])] .nil)) 87 [(0,[0,1,2,3,8,9])] (.node (.node (.node .nil 89 [(0,[2,4])] .nil) 91 [(1,[0,1,5,6,7,8,9,10])] .nil) 93 [(0,[1,2,10])] (.node (.node .nil 97 [(0,[0,1,4])] .nil) 98 [(0,[0,1,3,4,10,11,12,13,14,15,16]),(2,[0,1,3,4,10,11,12,13,17])] .nil))) 99 [(0,[0,1,7,8])] (.node (.node (.node (.node .nil 100 [(0,[0,1,7,8])] .nil) 103 [(0,[0,1,2,6]),(2,[0,1,2,6,7])] .nil) 104 [(0,[0,6,7,8,9]),(2,[0,6,7,10])] (.node (.node .nil 105 [(0,[0,1,6,7,8,9])] .nil) 107 [(0,[0,6,7])] .nil)) 108 [(0,[0,1,2,7,8]),(2,[0,1,2,7,8]),(4,[0,1,2,7,8,9]),(6,[0,1,2,7,8,10])] (.node (.node (.node .nil 110 [(0,[0,1,9,10]),(2,[0,1,9,10]),(4,[0,1,9,10])] .nil) 111 [(0,[0,1,10,11]),(2,[0,1,10,11]),(4,[0,1,10,11]),(6,[0,1,10,11]),(8,[0,1,10,11])] .nil) 116 [(0,[0,1,5,6,7,8,9]),(2,[0,1,5,6,7,8,10])] (.node (.node .nil 121 [(0,[0,2,3,8])] .nil) 127 [(0,[0,4,5]),(2,[4,6,7,8])] .nil)))))
def EQ:Tab Bool:=(.node (.node (.node (.node (.node (.node .nil 2 true .nil) 3 true (.node .nil 4 true .nil)) 5 true (.node (.node .nil 6 true .nil) 7 true (.node .nil 8 true .nil))) 9 true (.node (.node (.node .nil 10 true .nil) 11 true (.node .nil 12 true .nil)) 15 true (.node (.node .nil 16 true .nil) 17 true .nil))) 20 true (.node (.node (.node (.node .nil 21 true .nil) 31 true (.node .nil 40 true .nil)) 41 true (.node (.node .nil 42 true .nil) 43 true .nil)) 44 true (.node (.node (.node .nil 45 true .nil) 46 true (.node .nil 47 true .nil)) 48 true (.node (.node .nil 55 true .nil) 56 true .nil)))) 70 true (.node (.node (.node (.node (.node .nil 71 true .nil) 76 true (.node .nil 79 true .nil)) 92 true (.node (.node .nil 109 true .nil) 122 true .nil)) 131 true (.node (.node (.node .nil 134 true .nil) 135 true (.node .nil 144 true .nil)) 152 true (.node (.node .nil 154 true .nil) 155 true .nil))) 156 true (.node (.node (.node (.node .nil 157 true .nil) 159 true (.node .nil 160 true .nil)) 162 true (.node (.node .nil 166 true .nil) 170 true .nil)) 173 true (.node (.node (.node .nil 174 true .nil) 177 true (.node .nil 180 true .nil)) 181 true (.node (.node .nil 183 true .nil) 184 true .nil)))))
def GT(g:Nat):Option (List AV):=bif Nat.beq g 3 then some (a8d .u64 [1,10,100,1000,10000,100000,1000000,10000000,100000000,1000000000,10000000000,100000000000,1000000000000,10000000000000,100000000000000,1000000000000000,10000000000000000,100000000000000000,1000000000000000000,10000000000000000000])else none
noncomputable def L[PR]:Laid:={ P:=Tryz.prog,T:=TT,F:=FT,keep:=KT,eqs:=EQ,G:=GT,thaw:=λg=>decide (g=23∨g=52∨g=69∨g=32∨g=35∨g=41∨g=65∨g=66∨g=67),ro:=λg=>false,ext:=λf=>Nat.beq f 102,lend:=λg=>false,prim:=c4l PR.pr,primH:=d5o,bT:=82 }
variable [PR]
theorem d08:∀i x,TT.get i=some x→Tryz.prog.types[i]?=some x:=b5m (n:=187) (l:=Tryz.types.toList) (by kernel_rfl) (by kernel_rfl)
theorem d1u:∀i x,FT.get i=some x→Tryz.prog.funcs[i]?=some x:=b5m (n:=156) (l:=Tryz.funcs.toList) (by kernel_rfl) (by kernel_rfl)
theorem laidOk:LaidOk L:={
 types:=d08
 funcs:=d1u
 shape:=by kernel_rfl
 names:=by kernel_rfl
 eqs:=by kernel_rfl
 ext:=λf h=>by
  have h:Nat.beq f 102=true:=h;have:f=102:=by simpa using h
  subst this;exact⟨Tryz.f102,by kernel_rfl,by kernel_rfl,by kernel_rfl,by kernel_rfl,by kernel_rfl⟩
 mixed:=by kernel_rfl
 draws:=by kernel_rfl
 yid:=by kernel_rfl
 rf:=by kernel_rfl}
theorem ok:EnvOk L.env:=laidOk.envOk
@[go_sem] theorem d6j:L.env.G 3=some (a8d .u64 [1,10,100,1000,10000,100000,1000000,10000000,100000000,1000000000,10000000000,100000000000,1000000000000,10000000000000,100000000000000,1000000000000000,10000000000000000,100000000000000000,1000000000000000000,10000000000000000000]):=by kernel_rfl
attribute [go_sem] a8d
end Go.RInst
/- Type facts (printed by AxTypes). -/
namespace Go.RInst
open Go.Proofs Go.Ax
variable [PR]
@[go_sem] theorem e68:L.env.bT=82:=by rfl
@[go_sem] theorem roF(g:FuncId):L.env.ro g=false:=by rfl
@[go_sem] theorem e3u(g:FuncId):L.env.thaw g=decide (g=23∨g=52∨g=69∨g=32∨g=35∨g=41∨g=65∨g=66∨g=67):=by rfl
@[go_sem] theorem kp9_0:L.env.keep 9 0=[1,2,3,4]:=by kernel_rfl
@[go_sem] theorem kp9_2:L.env.keep 9 2=[1,2,3,5]:=by kernel_rfl
@[go_sem] theorem kp9_4:L.env.keep 9 4=[1,2,3,11]:=by kernel_rfl
@[go_sem] theorem kp9_6:L.env.keep 9 6=[1,2,3,11,12,13,14]:=by kernel_rfl
@[go_sem] theorem kp18_0:L.env.keep 18 0=[1,5,6,25,26,27]:=by kernel_rfl
@[go_sem] theorem kp18_2:L.env.keep 18 2=[1,5,6,42,43,44]:=by kernel_rfl
@[go_sem] theorem kp18_4:L.env.keep 18 4=[1,5,6,12,42,43,44,61,62,63]:=by kernel_rfl
@[go_sem] theorem kp18_6:L.env.keep 18 6=[1,5,6,78,79,80]:=by kernel_rfl
@[go_sem] theorem kp19_0:L.env.keep 19 0=[2,3,4,5,17,18,19]:=by kernel_rfl
@[go_sem] theorem kp21_0:L.env.keep 21 0=[1,3,4,29,30,31]:=by kernel_rfl
@[go_sem] theorem kp21_2:L.env.keep 21 2=[1,3,4,45,46,47]:=by kernel_rfl
@[go_sem] theorem kp21_4:L.env.keep 21 4=[1,3,4,9,61,62,63]:=by kernel_rfl
@[go_sem] theorem kp45_0:L.env.keep 45 0=[0,1,12,13]:=by kernel_rfl
@[go_sem] theorem kp46_0:L.env.keep 46 0=[0,1,12,13]:=by kernel_rfl
@[go_sem] theorem kp47_0:L.env.keep 47 0=[0,1,12,13]:=by kernel_rfl
@[go_sem] theorem kp50_0:L.env.keep 50 0=[2,39,40,41]:=by kernel_rfl
@[go_sem] theorem kp52_0:L.env.keep 52 0=[0,1,2,3,9,10]:=by kernel_rfl
@[go_sem] theorem kp58_0:L.env.keep 58 0=[0,1,2,10,11,52,53]:=by kernel_rfl
@[go_sem] theorem kp63_0:L.env.keep 63 0=[0,1,5,6]:=by kernel_rfl
@[go_sem] theorem kp66_0:L.env.keep 66 0=[0,1,4,13,14,15]:=by kernel_rfl
@[go_sem] theorem kp71_0:L.env.keep 71 0=[0,3]:=by kernel_rfl
@[go_sem] theorem kp81_0:L.env.keep 81 0=[0,1,7,8]:=by kernel_rfl
@[go_sem] theorem kp84_0:L.env.keep 84 0=[0,3,24,25]:=by kernel_rfl
@[go_sem] theorem kp93_0:L.env.keep 93 0=[1,2,10]:=by kernel_rfl
@[go_sem] theorem kp99_0:L.env.keep 99 0=[0,1,7,8]:=by kernel_rfl
@[go_sem] theorem kp100_0:L.env.keep 100 0=[0,1,7,8]:=by kernel_rfl
@[go_sem] theorem by3:L.env.bytes 3=8:=by kernel_rfl
@[go_sem] theorem by9:L.env.bytes 9=16:=by kernel_rfl
@[go_sem] theorem e4s:L.env.bytes 41=56:=by kernel_rfl
@[go_sem] theorem e4r:L.env.bytes 43=32:=by kernel_rfl
@[go_sem] theorem e4q:L.env.bytes 46=24:=by kernel_rfl
@[go_sem] theorem is3:isT L.env 3=true:=by kernel_rfl
@[go_sem] theorem sz3:L.env.sz 3=1:=by kernel_rfl
@[go_sem] theorem ag3:b7b L.env 3=some false:=by kernel_rfl
@[go_sem] theorem in3:c7y L.env 3=some .i64:=by kernel_rfl
@[go_sem] theorem ze3:L.env.zero 3=some [.int .i64 0]:=by kernel_rfl
@[go_sem] theorem un4:L.env.und 4=some .bool:=by kernel_rfl
@[go_sem] theorem is5:isT L.env 5=true:=by kernel_rfl
@[go_sem] theorem is9:isT L.env 9=true:=by kernel_rfl
@[go_sem] theorem sz9:L.env.sz 9=1:=by kernel_rfl
@[go_sem] theorem ag9:b7b L.env 9=some false:=by kernel_rfl
@[go_sem] theorem sr9:d39 L.env 9=true:=by kernel_rfl
@[go_sem] theorem ze9:L.env.zero 9=some [.str []]:=by kernel_rfl
@[go_sem] theorem e5v:isT L.env 22=true:=by kernel_rfl
@[go_sem] theorem e5d:L.env.sz 22=1:=by kernel_rfl
@[go_sem] theorem e6o:b7b L.env 22=some false:=by kernel_rfl
@[go_sem] theorem st22:slT L.env 22=some 9:=by kernel_rfl
@[go_sem] theorem e6d:apT L.env 22 22=some 9:=by kernel_rfl
@[go_sem] theorem e5k{k:Nat}(h:(k≤1000000000)=True):a2g L.env 9 k=true:=b0k (of_eq_true h) (by rw[by9];decide)
@[go_sem] theorem e5u:isT L.env 23=true:=by kernel_rfl
@[go_sem] theorem e5c:L.env.sz 23=1:=by kernel_rfl
@[go_sem] theorem e6n:b7b L.env 23=some false:=by kernel_rfl
@[go_sem] theorem st23:slT L.env 23=some 41:=by kernel_rfl
@[go_sem] theorem e6c:apT L.env 23 23=some 41:=by kernel_rfl
@[go_sem] theorem e5j{k:Nat}(h:(k≤1000000000)=True):a2g L.env 41 k=true:=b0k (of_eq_true h) (by rw[e4s];decide)
@[go_sem] theorem e5t:isT L.env 24=true:=by kernel_rfl
@[go_sem] theorem e5b:L.env.sz 24=1:=by kernel_rfl
@[go_sem] theorem e6m:b7b L.env 24=some false:=by kernel_rfl
@[go_sem] theorem st24:slT L.env 24=some 43:=by kernel_rfl
@[go_sem] theorem e6b:apT L.env 24 24=some 43:=by kernel_rfl
@[go_sem] theorem e5i{k:Nat}(h:(k≤1000000000)=True):a2g L.env 43 k=true:=b0k (of_eq_true h) (by rw[e4r];decide)
@[go_sem] theorem e5a:L.env.sz 26=3:=by kernel_rfl
@[go_sem] theorem ag26:b7b L.env 26=some true:=by kernel_rfl
theorem ft26:b3n L.env 26=some [22,23,24]:=by kernel_rfl
@[go_sem] theorem e3i:b4l L.env 26 0=some (0,22):=by kernel_rfl
@[go_sem] theorem e3h:b4l L.env 26 1=some (1,23):=by kernel_rfl
@[go_sem] theorem e3g:b4l L.env 26 2=some (2,24):=by kernel_rfl
@[go_sem] theorem e5s:isT L.env 27=true:=by kernel_rfl
@[go_sem] theorem e59:L.env.sz 27=1:=by kernel_rfl
@[go_sem] theorem e6l:b7b L.env 27=some false:=by kernel_rfl
@[go_sem] theorem e5f:slT L.env 27=some 46:=by kernel_rfl
@[go_sem] theorem e6a:apT L.env 27 27=some 46:=by kernel_rfl
@[go_sem] theorem e5h{k:Nat}(h:(k≤1000000000)=True):a2g L.env 46 k=true:=b0k (of_eq_true h) (by rw[e4q];decide)
@[go_sem] theorem e5r:isT L.env 29=true:=by kernel_rfl
@[go_sem] theorem e58:L.env.sz 29=3:=by kernel_rfl
@[go_sem] theorem e6k:b7b L.env 29=some true:=by kernel_rfl
@[go_sem] theorem e65:c9t L.env 29=true:=by kernel_rfl
@[go_sem] theorem e3f:b4l L.env 29 0=some (0,27):=by kernel_rfl
@[go_sem] theorem e28:b7h L.env 29 0=some (0,1):=by kernel_rfl
@[go_sem] theorem e3e:b4l L.env 29 1=some (1,23):=by kernel_rfl
@[go_sem] theorem e27:b7h L.env 29 1=some (1,1):=by kernel_rfl
@[go_sem] theorem e3d:b4l L.env 29 2=some (2,24):=by kernel_rfl
@[go_sem] theorem e26:b7h L.env 29 2=some (2,1):=by kernel_rfl
@[go_sem] theorem e51:L.env.zero 29=some [.nilslice,.nilslice,.nilslice]:=by kernel_rfl
@[go_sem] theorem e5q:isT L.env 41=true:=by kernel_rfl
@[go_sem] theorem e57:L.env.sz 41=6:=by kernel_rfl
@[go_sem] theorem e6j:b7b L.env 41=some true:=by kernel_rfl
@[go_sem] theorem e64:c9t L.env 41=true:=by kernel_rfl
theorem ft41:b3n L.env 41=some [9,3,3,3,3,3]:=by kernel_rfl
@[go_sem] theorem e3c:b4l L.env 41 0=some (0,9):=by kernel_rfl
@[go_sem] theorem e25:b7h L.env 41 0=some (0,1):=by kernel_rfl
@[go_sem] theorem e3b:b4l L.env 41 1=some (1,3):=by kernel_rfl
@[go_sem] theorem e24:b7h L.env 41 1=some (1,1):=by kernel_rfl
@[go_sem] theorem e3a:b4l L.env 41 2=some (2,3):=by kernel_rfl
@[go_sem] theorem e23:b7h L.env 41 2=some (2,1):=by kernel_rfl
@[go_sem] theorem e39:b4l L.env 41 3=some (3,3):=by kernel_rfl
@[go_sem] theorem e22:b7h L.env 41 3=some (3,1):=by kernel_rfl
@[go_sem] theorem e38:b4l L.env 41 4=some (4,3):=by kernel_rfl
@[go_sem] theorem e21:b7h L.env 41 4=some (4,1):=by kernel_rfl
@[go_sem] theorem e37:b4l L.env 41 5=some (5,3):=by kernel_rfl
@[go_sem] theorem e20:b7h L.env 41 5=some (5,1):=by kernel_rfl
@[go_sem] theorem e50:L.env.zero 41=some [.str [],.int .i64 0,.int .i64 0,.int .i64 0,.int .i64 0,.int .i64 0]:=by kernel_rfl
@[go_sem] theorem e5p:isT L.env 43=true:=by kernel_rfl
@[go_sem] theorem e56:L.env.sz 43=3:=by kernel_rfl
@[go_sem] theorem e6i:b7b L.env 43=some true:=by kernel_rfl
@[go_sem] theorem e63:c9t L.env 43=true:=by kernel_rfl
theorem ft43:b3n L.env 43=some [3,9,3]:=by kernel_rfl
@[go_sem] theorem e36:b4l L.env 43 0=some (0,3):=by kernel_rfl
@[go_sem] theorem e1z:b7h L.env 43 0=some (0,1):=by kernel_rfl
@[go_sem] theorem e35:b4l L.env 43 1=some (1,9):=by kernel_rfl
@[go_sem] theorem e1y:b7h L.env 43 1=some (1,1):=by kernel_rfl
@[go_sem] theorem e34:b4l L.env 43 2=some (2,3):=by kernel_rfl
@[go_sem] theorem e1x:b7h L.env 43 2=some (2,1):=by kernel_rfl
@[go_sem] theorem e4z:L.env.zero 43=some [.int .i64 0,.str [],.int .i64 0]:=by kernel_rfl
@[go_sem] theorem e5o:isT L.env 44=true:=by kernel_rfl
@[go_sem] theorem e55:L.env.sz 44=1:=by kernel_rfl
@[go_sem] theorem e6h:b7b L.env 44=some false:=by kernel_rfl
@[go_sem] theorem e5w:c7y L.env 44=some .u8:=by kernel_rfl
@[go_sem] theorem e5n:isT L.env 46=true:=by kernel_rfl
@[go_sem] theorem e54:L.env.sz 46=2:=by kernel_rfl
@[go_sem] theorem e6g:b7b L.env 46=some true:=by kernel_rfl
@[go_sem] theorem e62:c9t L.env 46=true:=by kernel_rfl
@[go_sem] theorem e33:b4l L.env 46 0=some (0,9):=by kernel_rfl
@[go_sem] theorem e1w:b7h L.env 46 0=some (0,1):=by kernel_rfl
@[go_sem] theorem e32:b4l L.env 46 1=some (1,44):=by kernel_rfl
@[go_sem] theorem e1v:b7h L.env 46 1=some (1,1):=by kernel_rfl
@[go_sem] theorem e4y:L.env.zero 46=some [.str [],.int .u8 0]:=by kernel_rfl
@[go_sem] theorem e5m:isT L.env 56=true:=by kernel_rfl
@[go_sem] theorem e53:L.env.sz 56=2:=by kernel_rfl
@[go_sem] theorem e6f:b7b L.env 56=some true:=by kernel_rfl
@[go_sem] theorem e61:c9t L.env 56=true:=by kernel_rfl
@[go_sem] theorem e1u:b7h L.env 56 0=some (0,1):=by kernel_rfl
@[go_sem] theorem e1t:b7h L.env 56 1=some (1,1):=by kernel_rfl
@[go_sem] theorem e4x:L.env.zero 56=some [.int .i64 0,.int .i64 0]:=by kernel_rfl
@[go_sem] theorem e5l:isT L.env 70=true:=by kernel_rfl
@[go_sem] theorem e52:L.env.sz 70=1:=by kernel_rfl
@[go_sem] theorem e6e:b7b L.env 70=some false:=by kernel_rfl
@[go_sem] theorem in70:c7y L.env 70=some .u16:=by kernel_rfl
@[go_sem] theorem ag71:b7b L.env 71=some true:=by kernel_rfl
@[go_sem] theorem ar71:c9y L.env 71=some (3,70):=by kernel_rfl
@[go_sem] theorem e4w:L.env.zero 82=some [.nilptr,.nilslice]:=by kernel_rfl
@[go_sem] theorem e5e:slT L.env 88=some 3:=by kernel_rfl
@[go_sem] theorem e69:apT L.env 88 88=some 3:=by kernel_rfl
@[go_sem] theorem e5g{k:Nat}(h:(k≤1000000000)=True):a2g L.env 3 k=true:=b0k (of_eq_true h) (by rw[by3];decide)
@[go_sem] theorem e60:c9t L.env 94=true:=by kernel_rfl
@[go_sem] theorem e31:b4l L.env 94 0=some (0,29):=by kernel_rfl
@[go_sem] theorem e30:b4l L.env 94 1=some (3,3):=by kernel_rfl
@[go_sem] theorem e4v:L.env.zero 94=some [.nilslice,.nilslice,.nilslice,.int .i64 0]:=by kernel_rfl
@[go_sem] theorem e3r:b6a L.env 114=false:=by kernel_rfl
end Go.RInst
/- The library's strings.Builder at this program: copyCheck, WriteString, grow, Len and String, with what they leave alone. -/
namespace Go.Proofs
set_option maxHeartbeats 200000000
open Go.Shelf Go.RowKit Go.Ax
theorem Tryz.bInfo:∃j,Tryz.prog.info? 82=some j∧j.size=2:=by
 have h:(Tryz.prog.info? 82).map (·.size)=some 2:=by kernel_rfl
 obtain⟨j,hj,hs⟩:=Option.map_eq_some_iff.1 h;exact⟨j,hj,hs⟩
theorem Tryz.bLies:liesAt Tryz.prog Tryz.prog.depth 82 (2/Tryz.prog.cellsOf 82) 0 82 1=true:=by kernel_rfl
structure OnlyB(w w':World)(b:Nat)(g:Option Nat):Prop where
 os:w'.os=w.os
 tape:w'.tape=w.tape
 output:w'.output=w.output
 size:w.heap.size≤w'.heap.size
 other:∀k,k<w.heap.size→k≠b→some k≠g→w'.heap[k]?=w.heap[k]?
theorem OnlyB.refl(w:World)(b:Nat)(g:Option Nat):OnlyB w w b g:=⟨rfl,rfl,rfl,Nat.le_refl _,λ_ _ _ _=>rfl⟩
theorem OnlyB.trans{a w w':World}{b:Nat}{g:Option Nat}(h:OnlyB a w b g)(k:OnlyB w w' b g):OnlyB a w' b g:=⟨k.os.trans h.os,k.tape.trans h.tape,k.output.trans h.output,Nat.le_trans h.size k.size,λi hi h1 h2=>(k.other i (by have:=h.size;omega) h1 h2).trans (h.other i hi h1 h2)⟩
theorem OnlyB.setB(w:World)(b i:Nat)(g:Option Nat)(u:Value):OnlyB w (w.setCell ⟨b,i,none⟩ u) b g:=⟨rfl,rfl,rfl,by simp[World.setCell],λk _ h _=>Below.heap_setCell _ _ _ _ h⟩
theorem OnlyB.buffed{w w':World}{b:Nat}{g:Option Nat}{t:TypeId}{v:Value}{xs:List Value}(h:Buffed w w' g t v xs):OnlyB w w' b g:=⟨h.os,h.tape,h.output,h.size,λk hk _ h2=>h.other k hk h2⟩
abbrev a35(b:Nat):Value:=.pointer (some ⟨b,0,none⟩)
theorem e0g{w:World}{b:Nat}{p v u:Value}{T:TypeId}(h:w.heap[b]?=some (.cells #[p,v] T (0,0))):(w.setCell ⟨b,0,none⟩ u).heap[b]?=some (.cells #[u,v] T (0,0)):=by simp[World.setCell,Array.getElem?_modify,h]
theorem d3d{w:World}{b:Nat}{p v u:Value}{T:TypeId}(h:w.heap[b]?=some (.cells #[p,v] T (0,0))):(w.setCell ⟨b,1,none⟩ u).heap[b]?=some (.cells #[p,u] T (0,0)):=by simp[World.setCell,Array.getElem?_modify,h]
theorem b0v{w:World}{b:Nat}{o:Obj}(h:w.heap[b]?=some o):b<w.heap.size:=(Array.getElem?_eq_some_iff.1 h).1
set_option maxRecDepth 100000 in
theorem Tryz.bCheck_used(b:Nat)(w:World)(h0:w.cell? ⟨b,0,none⟩=some (.pointer (some ⟨b,0,none⟩))) :
 Calls Tryz.prog 60 #[.pointer (some ⟨b,0,none⟩)] w λe w'=>e = .returned (.tuple #[])∧w'=w:=by
 obtain⟨j,hj,_⟩:=Tryz.bInfo
 go_enter Tryz.func60,Tryz.ntmps60
 go_wp2
 rw[Lib.run_neq_ptr_same w _ Tryz.underlying79 hj]
 go_wp2
 go_end0
 exact⟨rfl,rfl⟩
set_option maxRecDepth 100000 in
theorem Tryz.bCheck_fresh(b:Nat)(w:World)(h0:w.cell? ⟨b,0,none⟩=some (.pointer none))(hsh:w.shape? b=some (82,2))(hfz:w.frozen? ⟨b,0,none⟩=false) :
 Calls Tryz.prog 60 #[.pointer (some ⟨b,0,none⟩)] w λe w'=>e = .returned (.tuple #[])∧w'=w.setCell ⟨b,0,none⟩ (.pointer (some ⟨b,0,none⟩)):=by
 obtain⟨j,hj,hjs⟩:=Tryz.bInfo
 go_enter Tryz.func60,Tryz.ntmps60
 go_wp2
 rw[Lib.run_to_unsafe w ⟨b,0,none⟩ Tryz.underlying79 Tryz.underlying122 hj (by rw[hjs];decide) hsh (Nat.zero_lt_succ 1)];simp only[Result.andThen];rw[Oper.upon_value]
 go_wp2
 rw[run_callFunc_extern Tryz.func79 (by kernel_rfl) (by kernel_rfl) (by kernel_rfl) (e:=Extern.AbiNoEscape.same) (by kernel_rfl)];rw[Lib.run_noEscape];simp only[Result.andThen];rw[Oper.upon_value]
 go_wp2
 rw[Lib.run_from_unsafe w ⟨b,0,none⟩ Tryz.underlying122 Tryz.underlying79 hj hsh Tryz.bLies];simp only[Result.andThen];rw[Oper.upon_value]
 go_wp2
 go_end0
 exact⟨rfl,rfl⟩
theorem Tryz.bCheck(b:Nat)(p v:Value)(w:World)(h:w.heap[b]?=some (.cells #[p,v] 82 (0,0)))(hp:p = .pointer none∨p=a35 b) :
 Calls Tryz.prog 60 #[a35 b] w λe w'=>e = .returned (.tuple #[])∧w'.heap[b]?=some (.cells #[a35 b,v] 82 (0,0))∧OnlyB w w' b none:=by
 rcases hp with rfl|rfl
 ·refine(Tryz.bCheck_fresh b w (by rw[Lib.cell_of_heap h];rfl) (by simp[World.shape?,h]) (Lib.frozen_of_heap h 0)).mono ?_
  rintro e w' ⟨rfl,rfl⟩
  exact⟨rfl,e0g h,OnlyB.setB _ _ _ _ _⟩
 ·refine(Tryz.bCheck_used b w (by rw[Lib.cell_of_heap h];rfl)).mono ?_
  rintro e w' ⟨rfl,rfl⟩
  exact⟨rfl,h,OnlyB.refl _ _ _⟩
set_option maxRecDepth 100000 in
theorem Tryz.bWrite(b:Nat)(p v:Value)(s:ByteArray)(w:World)(h:w.heap[b]?=some (.cells #[p,v] 82 (0,0)))(hp:p = .pointer none∨p=a35 b)(g:Option Nat){Q:World→Value→World→Prop}
 (happ:∀w1,OnlyB w w1 b none→∃v' w2,(Builtin.append_ #[80,9] 80 #[v,.string s]).run Tryz.prog w1 = .ok v' w2∧(∃a n c,v' = .slice a n c)∧OnlyB w1 w2 b g∧w2.heap[b]?=w1.heap[b]?∧Q w1 v' w2) :
 Calls Tryz.prog 36 #[a35 b,.string s] w λe w'=>e = .returned (.tuple #[.int .i64 s.size,.nilIface])∧∃w1 v' w2,w'=w2.setCell ⟨b,1,none⟩ v'∧w2.heap[b]?=some (.cells #[a35 b,v] 82 (0,0))∧OnlyB w w1 b none∧OnlyB w1 w2 b g∧Q w1 v' w2:=by
 go_enter Tryz.func36,Tryz.ntmps36
 go_wp2_with (go_at_call 60;refine(Tryz.bCheck b p v w h hp).mono ?_)
 rintro e w1 ⟨rfl,h1,hb1⟩
 obtain⟨v',w2,hrun,⟨sa,sn,sc,rfl⟩,hob,hb2,hQ⟩:=happ w1 hb1;have c1:w1.cell? ⟨b,1,none⟩=some v:=by rw[Lib.cell_of_heap h1];rfl
 rw[h1]at hb2;have f1:w2.frozen? ⟨b,1,none⟩=false:=Lib.frozen_of_heap hb2 1;have d1:w2.cell? ⟨b,1,none⟩=some v:=by rw[Lib.cell_of_heap hb2];rfl
 go_wp2_with (at_builtin;refine Lib.wpList_append_run _ rfl _ _ 80 9 rfl _ _ rfl rfl _ _ hrun ?_)
 go_wp2
 go_ret2
 exact⟨rfl,w1,_,w2,rfl,hb2,hb1,hob,hQ⟩
set_option maxRecDepth 100000 in
theorem Tryz.bLen(b:Nat)(p:Value)(a:Option Addr)(n c:Nat)(w:World)(h:w.heap[b]?=some (.cells #[p,.slice a n c] 82 (0,0))) :
 Calls Tryz.prog 38 #[a35 b] w λe w'=>e = .returned (.int .i64 n)∧w'=w:=by
 have c1:w.cell? ⟨b,1,none⟩=some (.slice a n c):=by rw[Lib.cell_of_heap h];rfl
 go_enter Tryz.func38,Tryz.ntmps38
 go_wp2
 go_ret
 exact⟨rfl,rfl⟩
set_option maxRecDepth 100000 in
theorem Tryz.bString_nil(b:Nat)(p:Value)(w:World)(h:w.heap[b]?=some (.cells #[p,.slice none 0 0] 82 (0,0))) :
 Calls Tryz.prog 39 #[a35 b] w λe w'=>e = .returned (.string ⟨#[]⟩)∧w'=w.drew:=by
 have hUS:∀(W:World) (q:Option Addr),(Builtin.unsafeString_ #[109,3] 9 #[.pointer q,.int .i64 0]).run Tryz.prog W = .ok (.string .empty) W:=λW q=>Lib.run_unsafeString_none W _ _ _ q;have c1:w.drew.cell? ⟨b,1,none⟩=some (.slice none 0 0):=by have:w.drew.heap[b]?=some (.cells #[p,.slice none 0 0] 82 (0,0)):=h;rw[Lib.cell_of_heap this];rfl
 have hSD:(Builtin.unsafeSliceData_ #[80] 109 #[.slice none 0 0]).run Tryz.prog w.drew = .ok (.pointer none) w.drew:=rfl;have mixed:Tryz.prog.follows .mixedOrders=true:=by kernel_rfl
 go_enter Tryz.func39,Tryz.ntmps39
 go_wp2
 go_region_o
 all_goals (go_wp2;go_ret;exact⟨rfl,rfl⟩)
set_option maxRecDepth 100000 in
theorem Tryz.bString(b:Nat)(p:Value)(g c:Nat)(l:List UInt8)(w:World)(h:w.heap[b]?=some (.cells #[p,.slice (some ⟨g,0,none⟩) l.length c] 82 (0,0)))(h0:l≠[])(hc:l.length≤c)(h63:l.length≤9223372036854775807)(hb:c6u w g 5 c (Lib.byteCells l)) :
 Calls Tryz.prog 39 #[a35 b] w λe w'=>e = .returned (.string ⟨l.toArray⟩)∧w'=w.drew.freeze ⟨g,0,none⟩ l.length:=by
 obtain⟨cur,hg,hcc,hx⟩:=hb;have hl0:l.length≠0:=by simpa using h0
 have c1:w.drew.cell? ⟨b,1,none⟩=some (.slice (some ⟨g,0,none⟩) l.length c):=by have:w.drew.heap[b]?=some (.cells #[p,.slice (some ⟨g,0,none⟩) l.length c] 82 (0,0)):=h;rw[Lib.cell_of_heap this];rfl
 have hSD:(Builtin.unsafeSliceData_ #[80] 109 #[.slice (some ⟨g,0,none⟩) l.length c]).run Tryz.prog w.drew = .ok (.pointer (some ⟨g,0,none⟩)) w.drew:=Lib.run_unsafeSliceData_row _ _ _ _ _ _ (by omega);have hUS:(Builtin.unsafeString_ #[109,3] 9 #[.pointer (some ⟨g,0,none⟩),.int .i64 l.length]).run Tryz.prog w.drew = .ok (.string ⟨l.toArray⟩) (w.drew.freeze ⟨g,0,none⟩ l.length):=by refine Lib.run_unsafeString_row w.drew 109 3 9 5 Tryz.underlying109 (by kernel_rfl) g cur.size (by have hg':w.drew.heap[g]?=some (.cells cur 5 (0,0)):=hg;simp[World.shape?,hg']) l h0 (by omega) h63 ?_;intro j x hj;have hg':w.drew.heap[g]?=some (.cells cur 5 (0,0)):=hg;rw[a2x,Nat.zero_add,Lib.cell_of_heap hg'];exact hx j _ (by simp[Lib.byteCells,hj])
 have mixed:Tryz.prog.follows .mixedOrders=true:=by kernel_rfl
 go_enter Tryz.func39,Tryz.ntmps39
 go_wp2
 go_region_o
 all_goals (go_wp2;go_ret;exact⟨rfl,rfl⟩)
def c6t(w w':World)(b:Nat):Prop:=OnlyB w w' b none∧∃cs:Array Value,w'.heap[b]?=some (.cells #[a35 b,.slice (some ⟨w.heap.size,0,none⟩) 0 cs.size] 82 (0,0))∧w'.heap[w.heap.size]?=some (.cells cs 5 (0,0))
theorem d1q{w:World}{b:Nat}{cs:Array Value}(h:w.heap[b]?=some (.cells #[a35 b,.slice none 0 0] 82 (0,0))) :
 c6t w ((w.setCell ⟨b,1,none⟩ (.slice (some ⟨w.heap.size,0,none⟩) 0 cs.size)).alloc (.cells cs 5)).drew.drew.drew b:=by
 have hlt:=b0v h;have h2:=d3d (u:=.slice (some ⟨w.heap.size,0,none⟩) 0 cs.size) h;have hsz:(w.setCell ⟨b,1,none⟩ (.slice (some ⟨w.heap.size,0,none⟩) 0 cs.size)).heap.size=w.heap.size:=by simp
 refine⟨⟨rfl,rfl,rfl,?_,λk hk h1 _=>?_⟩,cs,?_,?_⟩
 ·show w.heap.size≤((w.setCell _ _).heap.push _).size;rw[Array.size_push,hsz];omega
 ·show((w.setCell _ _).heap.push _)[k]?=_;rw[Array.getElem?_push,hsz,if_neg (by omega),Below.heap_setCell _ _ _ _ h1]
 ·show((w.setCell _ _).heap.push _)[b]?=_;rw[Array.getElem?_push,hsz,if_neg (by omega)];exact h2
 ·show((w.setCell _ _).heap.push _)[w.heap.size]?=_;rw[Array.getElem?_push,hsz,if_pos rfl]
set_option maxRecDepth 100000 in
theorem Tryz.bgrow(b n:Nat)(w:World)(hbk:w.heap[b]?=some (.cells #[a35 b,.slice none 0 0] 82 (0,0)))(hn:n≤281474976710656) :
 Calls Tryz.prog 75 #[a35 b,.int .i64 n] w λe w'=>e = .returned (.tuple #[])∧c6t w w' b:=by
 obtain⟨cs,hrun,hle,hmax⟩:=Lib.run_makeNoZero (P:=Tryz.prog) w.drew #[3] 80 5 Tryz.underlying80 n hn;have hw:IntKind.i64.wrap (IntKind.i64.wrap 0+(n:Int))=n:=by rw[IntKind.wrap_i64,IntKind.wrap_i64];omega
 have hcall:(callFunc 92 #[.int .i64 (IntKind.i64.wrap (IntKind.i64.wrap 0+(n:Int)))]).run Tryz.prog w.drew = .ok (.value (.slice (some ⟨w.drew.heap.size,0,none⟩) n cs.size)) (w.drew.drew.drew.alloc (.cells cs 5)):=by rw[hw,run_callFunc_extern Tryz.func92 (by kernel_rfl) (by kernel_rfl) (by kernel_rfl) (e:=Extern.BytealgMakeNoZero.makeNoZero #[3] #[80]) (by kernel_rfl),hrun];rfl
 have hlt:=b0v hbk;have c1:w.drew.cell? ⟨b,1,none⟩=some (.slice none 0 0):=by have:w.drew.heap[b]?=_:=hbk;rw[Lib.cell_of_heap this];rfl
 have c2:(w.alloc (.cells cs 5)).cell? ⟨b,1,none⟩=some (.slice none 0 0):=by have:(w.alloc (.cells cs 5)).heap[b]?=_:=(Lib.alloc_old w _ b hlt).trans hbk;rw[Lib.cell_of_heap this];rfl
 have f2:(w.alloc (.cells cs 5)).frozen? ⟨b,1,none⟩=false:=Lib.frozen_of_heap ((Lib.alloc_old w _ b hlt).trans hbk) 1;have hs5:(sizeOf 5).run Tryz.prog w = .ok 1 w:=Tryz.sizeOf5 w;have hcopy:∀W:World,(Builtin.copy_ #[80,80] 3 #[.slice (some ⟨w.heap.size,0,none⟩) 0 cs.size,.slice none 0 0]).run Tryz.prog W = .ok (goInt 0) W:=λW=>run_copy_none W 80 80 3 5 _ _ 0 cs.size 0 0 Tryz.underlying80 (by kernel_rfl) rfl;clear hw;have mixed:Tryz.prog.follows .mixedOrders=true:=by kernel_rfl
 go_enter Tryz.func75,Tryz.ntmps75
 go_wp2
 have hfin:=d1q (cs:=cs) hbk
 go_region_o
 all_goals (go_wp2;go_end0;exact⟨rfl,hfin⟩)
set_option maxRecDepth 1000000 in
theorem Tryz.bGrow(b n:Nat)(w:World)(hbk:w.heap[b]?=some (.cells #[.pointer none,.slice none 0 0] 82 (0,0)))(hn:n≤281474976710656) :
 Calls Tryz.prog 53 #[a35 b,.int .i64 n] w λe w'=>e = .returned (.tuple #[])∧((n=0∧w'=(w.setCell ⟨b,0,none⟩ (a35 b)).drew)∨(n≠0∧c6t (w.setCell ⟨b,0,none⟩ (a35 b)).drew w' b)):=by
 have hbk1:(w.setCell ⟨b,0,none⟩ (a35 b)).heap[b]?=some (.cells #[a35 b,.slice none 0 0] 82 (0,0)):=e0g hbk;have c1:(w.setCell ⟨b,0,none⟩ (a35 b)).cell? ⟨b,1,none⟩=some (.slice none 0 0):=by rw[Lib.cell_of_heap hbk1];rfl
 have c1':(w.setCell ⟨b,0,none⟩ (a35 b)).drew.cell? ⟨b,1,none⟩=some (.slice none 0 0):=c1;have mixed:Tryz.prog.follows .mixedOrders=true:=by kernel_rfl
 go_enter Tryz.func53,Tryz.ntmps53
 go_wp2_with (go_at_call 60;refine(Tryz.bCheck_fresh b w (by rw[Lib.cell_of_heap hbk];rfl) (by simp[World.shape?,hbk]) (Lib.frozen_of_heap hbk 0)).mono ?_;rintro e w' ⟨rfl,rfl⟩)
 go_region_o
 all_goals go_wp2_with (go_at_call 75;refine(Tryz.bgrow b n (w.setCell ⟨b,0,none⟩ (a35 b)).drew hbk1 hn).mono ?_;rintro e w' ⟨rfl,h1⟩)
 all_goals first
  |(go_end0;exact⟨rfl,.inr ⟨by omega,h1⟩⟩)
  |(go_end0;exact⟨rfl,.inl ⟨by omega,rfl⟩⟩)
end Go.Proofs
/- The shelf's contracts at this dump, in plain words (printed by the kit's lay-plain.mjs). -/
namespace Go.Proofs
open Go.Shelf
def Tryz.lays156_ren:Go.Shelf.Ren:=⟨λ|156=>24|165=>53|166=>36|169=>39|240=>60|241=>75|276=>79|277=>92|n=>n,λ|31=>22|9=>9|3=>3|4=>4|0=>0|20=>20|72=>82|76=>85|70=>79|37=>80|75=>84|127=>109|164=>122|5=>5|80=>90|n=>n,λ|n=>n⟩
theorem Tryz.lays156:Go.Proofs.Lays.n156 Tryz.prog Tryz.lays156_ren:={
 mixed:=by kernel_rfl
 f156:=Tryz.func24.trans (congrArg some (by kernel_rfl))
 f165:=Tryz.func53.trans (congrArg some (by kernel_rfl))
 f166:=Tryz.func36.trans (congrArg some (by kernel_rfl))
 f169:=Tryz.func39.trans (congrArg some (by kernel_rfl))
 f240:=Tryz.func60.trans (congrArg some (by kernel_rfl))
 f241:=Tryz.func75.trans (congrArg some (by kernel_rfl))
 f276:=Tryz.func79.trans (congrArg some (by kernel_rfl))
 f277:=Tryz.func92.trans (congrArg some (by kernel_rfl))
 t0:=Tryz.underlying0
 a0:=Tryz.isAgg0
 z0:=Tryz.sizeOf0
 v0:=Tryz.zeroValue0
 t3:=Tryz.underlying3
 a3:=Tryz.isAgg3
 z3:=Tryz.sizeOf3
 v3:=Tryz.zeroValue3
 t4:=Tryz.underlying4
 a4:=Tryz.isAgg4
 z4:=Tryz.sizeOf4
 v4:=Tryz.zeroValue4
 t9:=Tryz.underlying9
 a9:=Tryz.isAgg9
 z9:=Tryz.sizeOf9
 v9:=Tryz.zeroValue9
 t20:=Tryz.underlying20
 a20:=Tryz.isAgg20
 z20:=Tryz.sizeOf20
 v20:=Tryz.zeroValue20
 t31:=Tryz.underlying22
 a31:=Tryz.isAgg22
 z31:=Tryz.sizeOf22
 v31:=Tryz.zeroValue22
 t37:=Tryz.underlying80
 a37:=Tryz.isAgg80
 z37:=Tryz.sizeOf80
 v37:=Tryz.zeroValue80
 t70:=Tryz.underlying79
 a70:=Tryz.isAgg79
 z70:=Tryz.sizeOf79
 v70:=Tryz.zeroValue79
 t72:=Tryz.underlying82
 a72:=Tryz.isAgg82
 z72:=Tryz.sizeOf82
 v72:=Tryz.zeroValue82
 t75:=Tryz.underlying84
 a75:=Tryz.isAgg84
 z75:=Tryz.sizeOf84
 v75:=Tryz.zeroValue84
 t76:=Tryz.underlying85
 a76:=Tryz.isAgg85
 z76:=Tryz.sizeOf85
 v76:=Tryz.zeroValue85
 t127:=Tryz.underlying109
 a127:=Tryz.isAgg109
 z127:=Tryz.sizeOf109
 v127:=Tryz.zeroValue109
 t164:=Tryz.underlying122
 a164:=Tryz.isAgg122
 z164:=Tryz.sizeOf122
 v164:=Tryz.zeroValue122 }
theorem Tryz.Builder_Extra_156:Builder.Extra Tryz.prog Tryz.lays156_ren:={
 sizeBuilder:=by kernel_rfl
 liesBuilder:=by kernel_rfl
 t5:=Tryz.underlying5
 a5:=Tryz.isAgg5
 z5:=Tryz.sizeOf5
 v5:=Tryz.zeroValue5
 infoByte:=by kernel_rfl
 cellsByte:=by kernel_rfl
 sizeByte:=by kernel_rfl
 neB5:=by decide }
open Go.RowKit in
theorem Tryz.strings_Join(bk o c:Nat)(xs:List ByteArray)(sep:ByteArray)(w:World)(hcells:∀(j:Nat) x,xs[j]?=some x→w.cell? ⟨bk,o+j,none⟩=some (.string x))(hbk:bk<w.heap.size)(hN:xs.length≤140737488355328)(hcap:xs.length≤c)(hlen:(Lib.join (xs.map (·.data.toList)) sep.data.toList).length≤140737488355328) :
 Calls Tryz.prog 24 #[.slice (some ⟨bk,o,none⟩) xs.length c,.string sep] w λe w'=>e = .returned (.string ⟨(Lib.join (xs.map (·.data.toList)) sep.data.toList).toArray⟩)∧Below w.heap.size w w':=Any.strings_Join Tryz.lays156 Tryz.Builder_Extra_156 bk o c xs sep w hcells hbk hN hcap hlen
def Tryz.laysM171_ren:Go.Shelf.Ren:=⟨λ|171=>37|243=>61|246=>80|283=>95|284=>96|285=>97|286=>98|129=>113|317=>117|318=>118|319=>119|320=>120|337=>128|338=>129|n=>n,λ|3=>3|9=>9|2=>2|4=>4|171=>134|0=>0|53=>135|37=>80|5=>5|173=>138|212=>159|51=>152|20=>20|213=>160|46=>131|232=>173|233=>174|n=>n,λ|17=>3|18=>4|19=>5|n=>n⟩
theorem Tryz.laysM171:Go.Proofs.LaysM.n171 Tryz.prog Tryz.laysM171_ren:={
 mixed:=by kernel_rfl
 f129:=Tryz.func113.trans (congrArg some (by kernel_rfl))
 f171:=Tryz.func37.trans (congrArg some (by kernel_rfl))
 f243:=Tryz.func61.trans (congrArg some (by kernel_rfl))
 f246:=Tryz.func80.trans (congrArg some (by kernel_rfl))
 f283:=Tryz.func95.trans (congrArg some (by kernel_rfl))
 f284:=Tryz.func96.trans (congrArg some (by kernel_rfl))
 f285:=Tryz.func97.trans (congrArg some (by kernel_rfl))
 f286:=Tryz.func98.trans (congrArg some (by kernel_rfl))
 f317:=Tryz.func117.trans (congrArg some (by kernel_rfl))
 f318:=Tryz.func118.trans (congrArg some (by kernel_rfl))
 f319:=Tryz.func119.trans (congrArg some (by kernel_rfl))
 f320:=Tryz.func120.trans (congrArg some (by kernel_rfl))
 f337:=Tryz.func128.trans (congrArg some (by kernel_rfl))
 f338:=Tryz.func129.trans (congrArg some (by kernel_rfl))
 t0:=Tryz.underlying0
 a0:=Tryz.isAgg0
 z0:=Tryz.sizeOf0
 v0:=Tryz.zeroValue0
 t2:=Tryz.underlying2
 a2:=Tryz.isAgg2
 z2:=Tryz.sizeOf2
 v2:=Tryz.zeroValue2
 t3:=Tryz.underlying3
 a3:=Tryz.isAgg3
 z3:=Tryz.sizeOf3
 v3:=Tryz.zeroValue3
 t4:=Tryz.underlying4
 a4:=Tryz.isAgg4
 z4:=Tryz.sizeOf4
 v4:=Tryz.zeroValue4
 t5:=Tryz.underlying5
 a5:=Tryz.isAgg5
 z5:=Tryz.sizeOf5
 v5:=Tryz.zeroValue5
 t9:=Tryz.underlying9
 a9:=Tryz.isAgg9
 z9:=Tryz.sizeOf9
 v9:=Tryz.zeroValue9
 t20:=Tryz.underlying20
 a20:=Tryz.isAgg20
 z20:=Tryz.sizeOf20
 v20:=Tryz.zeroValue20
 t37:=Tryz.underlying80
 a37:=Tryz.isAgg80
 z37:=Tryz.sizeOf80
 v37:=Tryz.zeroValue80
 t46:=Tryz.underlying131
 a46:=Tryz.isAgg131
 z46:=Tryz.sizeOf131
 v46:=Tryz.zeroValue131
 t51:=Tryz.underlying152
 a51:=Tryz.isAgg152
 z51:=Tryz.sizeOf152
 v51:=Tryz.zeroValue152
 t53:=Tryz.underlying135
 a53:=Tryz.isAgg135
 z53:=Tryz.sizeOf135
 v53:=Tryz.zeroValue135
 t171:=Tryz.underlying134
 a171:=Tryz.isAgg134
 z171:=Tryz.sizeOf134
 v171:=Tryz.zeroValue134
 t173:=Tryz.underlying138
 a173:=Tryz.isAgg138
 z173:=Tryz.sizeOf138
 v173:=Tryz.zeroValue138
 t212:=Tryz.underlying159
 a212:=Tryz.isAgg159
 z212:=Tryz.sizeOf159
 v212:=Tryz.zeroValue159
 t213:=Tryz.underlying160
 a213:=Tryz.isAgg160
 z213:=Tryz.sizeOf160
 t232:=Tryz.underlying173
 a232:=Tryz.isAgg173
 z232:=Tryz.sizeOf173
 v232:=Tryz.zeroValue173
 t233:=Tryz.underlying174
 a233:=Tryz.isAgg174
 z233:=Tryz.sizeOf174
 v233:=Tryz.zeroValue174
 g17:=by kernel_rfl
 g18:=by kernel_rfl
 g19:=by kernel_rfl
 i0:=by kernel_rfl
 i2:=by kernel_rfl
 i3:=by kernel_rfl
 i4:=by kernel_rfl
 i5:=by kernel_rfl
 i9:=by kernel_rfl
 i20:=by kernel_rfl
 i37:=by kernel_rfl
 i46:=by kernel_rfl
 i51:=by kernel_rfl
 i53:=by kernel_rfl
 i171:=by kernel_rfl
 i173:=by kernel_rfl
 i212:=by kernel_rfl
 i232:=by kernel_rfl
 i233:=by kernel_rfl
 m17:=by kernel_rfl
 m18:=by kernel_rfl
 m19:=by kernel_rfl }
open Go.RowKit Go.Sort Go.Lib in
theorem Tryz.strconv_Itoa(n:Int)(h0:-9223372036854775808≤n)(h1:n≤9223372036854775807)(w:World)(htab:Lib.TabIs Tryz.prog w "internal/strconv.uint64pow10" .u64 Lib.pow10Tab) :
 Calls Tryz.prog 37 #[.int .i64 n] w λe w'=>e = .returned (.string ⟨(Lib.itoa n).toArray⟩)∧∃k os,w'=grow (w.drewN k) os:=Any.strconv_Itoa Tryz.laysM171 n h0 h1 w htab
def Tryz.lays138_ren:Go.Shelf.Ren:=⟨λ|138=>73|195=>89|218=>90|143=>74|219=>91|217=>86|225=>114|224=>115|267=>116|266=>102|314=>127|n=>n,λ|9=>9|3=>3|4=>4|5=>5|0=>0|46=>131|146=>168|51=>152|n=>n,λ|1=>0|n=>n⟩
theorem Tryz.lays138:Go.Proofs.Lays.n138 Tryz.prog Tryz.lays138_ren:={
 mixed:=by kernel_rfl
 f138:=Tryz.func73.trans (congrArg some (by kernel_rfl))
 f143:=Tryz.func74.trans (congrArg some (by kernel_rfl))
 f195:=Tryz.func89.trans (congrArg some (by kernel_rfl))
 f217:=Tryz.func86.trans (congrArg some (by kernel_rfl))
 f218:=Tryz.func90.trans (congrArg some (by kernel_rfl))
 f219:=Tryz.func91.trans (congrArg some (by kernel_rfl))
 f224:=Tryz.func115.trans (congrArg some (by kernel_rfl))
 f225:=Tryz.func114.trans (congrArg some (by kernel_rfl))
 f266:=Tryz.func102.trans (congrArg some (by kernel_rfl))
 f267:=Tryz.func116.trans (congrArg some (by kernel_rfl))
 f314:=Tryz.func127.trans (congrArg some (by kernel_rfl))
 t0:=Tryz.underlying0
 a0:=Tryz.isAgg0
 z0:=Tryz.sizeOf0
 v0:=Tryz.zeroValue0
 t3:=Tryz.underlying3
 a3:=Tryz.isAgg3
 z3:=Tryz.sizeOf3
 v3:=Tryz.zeroValue3
 t4:=Tryz.underlying4
 a4:=Tryz.isAgg4
 z4:=Tryz.sizeOf4
 v4:=Tryz.zeroValue4
 t5:=Tryz.underlying5
 a5:=Tryz.isAgg5
 z5:=Tryz.sizeOf5
 v5:=Tryz.zeroValue5
 t9:=Tryz.underlying9
 a9:=Tryz.isAgg9
 z9:=Tryz.sizeOf9
 v9:=Tryz.zeroValue9
 t46:=Tryz.underlying131
 a46:=Tryz.isAgg131
 z46:=Tryz.sizeOf131
 v46:=Tryz.zeroValue131
 t51:=Tryz.underlying152
 a51:=Tryz.isAgg152
 z51:=Tryz.sizeOf152
 v51:=Tryz.zeroValue152
 t146:=Tryz.underlying168
 a146:=Tryz.isAgg168
 z146:=Tryz.sizeOf168
 v146:=Tryz.zeroValue168
 g1:=by kernel_rfl }
open Go.RowKit Go.Lib in
theorem Tryz.strings_Count_one(s:ByteArray)(c:UInt8)(w:World) :
 Calls Tryz.prog 73 #[.string s,.string ⟨#[c]⟩] w λe w'=>e = .returned (.int .i64 (Lib.countByte s.data.toList c))∧w'=w:=Any.strings_Count_one Tryz.lays138 s c w
def Tryz.lays190_ren:Go.Shelf.Ren:=⟨λ|190=>70|125=>88|258=>87|128=>112|129=>113|302=>103|303=>104|304=>105|305=>106|306=>107|307=>108|308=>109|309=>110|310=>111|333=>121|329=>122|330=>123|334=>124|335=>125|336=>126|344=>130|n=>n,λ|31=>22|9=>9|3=>3|46=>131|0=>0|51=>152|53=>135|4=>4|183=>145|182=>144|131=>149|5=>5|218=>162|222=>166|228=>170|229=>171|n=>n,λ|n=>n⟩
theorem Tryz.lays190:Go.Proofs.Lays.n190 Tryz.prog Tryz.lays190_ren:={
 mixed:=by kernel_rfl
 f125:=Tryz.func88.trans (congrArg some (by kernel_rfl))
 f128:=Tryz.func112.trans (congrArg some (by kernel_rfl))
 f129:=Tryz.func113.trans (congrArg some (by kernel_rfl))
 f190:=Tryz.func70.trans (congrArg some (by kernel_rfl))
 f258:=Tryz.func87.trans (congrArg some (by kernel_rfl))
 f302:=Tryz.func103.trans (congrArg some (by kernel_rfl))
 f303:=Tryz.func104.trans (congrArg some (by kernel_rfl))
 f304:=Tryz.func105.trans (congrArg some (by kernel_rfl))
 f305:=Tryz.func106.trans (congrArg some (by kernel_rfl))
 f306:=Tryz.func107.trans (congrArg some (by kernel_rfl))
 f307:=Tryz.func108.trans (congrArg some (by kernel_rfl))
 f308:=Tryz.func109.trans (congrArg some (by kernel_rfl))
 f309:=Tryz.func110.trans (congrArg some (by kernel_rfl))
 f310:=Tryz.func111.trans (congrArg some (by kernel_rfl))
 f329:=Tryz.func122.trans (congrArg some (by kernel_rfl))
 f330:=Tryz.func123.trans (congrArg some (by kernel_rfl))
 f333:=Tryz.func121.trans (congrArg some (by kernel_rfl))
 f334:=Tryz.func124.trans (congrArg some (by kernel_rfl))
 f335:=Tryz.func125.trans (congrArg some (by kernel_rfl))
 f336:=Tryz.func126.trans (congrArg some (by kernel_rfl))
 f344:=Tryz.func130.trans (congrArg some (by kernel_rfl))
 t0:=Tryz.underlying0
 a0:=Tryz.isAgg0
 z0:=Tryz.sizeOf0
 v0:=Tryz.zeroValue0
 t3:=Tryz.underlying3
 a3:=Tryz.isAgg3
 z3:=Tryz.sizeOf3
 v3:=Tryz.zeroValue3
 t4:=Tryz.underlying4
 a4:=Tryz.isAgg4
 z4:=Tryz.sizeOf4
 v4:=Tryz.zeroValue4
 t5:=Tryz.underlying5
 a5:=Tryz.isAgg5
 z5:=Tryz.sizeOf5
 v5:=Tryz.zeroValue5
 t9:=Tryz.underlying9
 a9:=Tryz.isAgg9
 z9:=Tryz.sizeOf9
 v9:=Tryz.zeroValue9
 t31:=Tryz.underlying22
 a31:=Tryz.isAgg22
 z31:=Tryz.sizeOf22
 v31:=Tryz.zeroValue22
 t46:=Tryz.underlying131
 a46:=Tryz.isAgg131
 z46:=Tryz.sizeOf131
 v46:=Tryz.zeroValue131
 t51:=Tryz.underlying152
 a51:=Tryz.isAgg152
 z51:=Tryz.sizeOf152
 v51:=Tryz.zeroValue152
 t53:=Tryz.underlying135
 a53:=Tryz.isAgg135
 z53:=Tryz.sizeOf135
 v53:=Tryz.zeroValue135
 t131:=Tryz.underlying149
 a131:=Tryz.isAgg149
 z131:=Tryz.sizeOf149
 v131:=Tryz.zeroValue149
 t182:=Tryz.underlying144
 a182:=Tryz.isAgg144
 z182:=Tryz.sizeOf144
 v182:=Tryz.zeroValue144
 t183:=Tryz.underlying145
 a183:=Tryz.isAgg145
 z183:=Tryz.sizeOf145
 v183:=Tryz.zeroValue145
 t218:=Tryz.underlying162
 a218:=Tryz.isAgg162
 z218:=Tryz.sizeOf162
 v218:=Tryz.zeroValue162
 t222:=Tryz.underlying166
 a222:=Tryz.isAgg166
 z222:=Tryz.sizeOf166
 v222:=Tryz.zeroValue166
 t228:=Tryz.underlying170
 a228:=Tryz.isAgg170
 z228:=Tryz.sizeOf170
 v228:=Tryz.zeroValue170
 t229:=Tryz.underlying171
 a229:=Tryz.isAgg171
 z229:=Tryz.sizeOf171
 v229:=Tryz.zeroValue171 }
open Go.Sort Go.RowKit in
theorem Tryz.slices_Sort_string(blk off cap:Nat)(ss:List (List UInt8))(w:World)(hH:Holds encStr w blk off ss.toArray)(hblk:blk<w.heap.size)(hsz:ss.length<4611686018427387904) :
 Calls Tryz.prog 70 #[.slice (some ⟨blk,off,none⟩) ss.length cap] w λe w'=>e = .returned (.tuple #[])∧∃n os,w'=grow (putRow encStr (Sort.ahead w n) blk off (ss.mergeSort λx y=>decide (x≤y)).toArray) os:=Any.slices_Sort_string Tryz.lays190 blk off cap ss w hH hblk hsz
def Tryz.lays102_ren:Go.Shelf.Ren:=⟨λ|102=>30|209=>59|207=>78|n=>n,λ|9=>9|4=>4|3=>3|n=>n,λ|n=>n⟩
theorem Tryz.lays102:Go.Proofs.Lays.n102 Tryz.prog Tryz.lays102_ren:={
 mixed:=by kernel_rfl
 f102:=Tryz.func30.trans (congrArg some (by kernel_rfl))
 f207:=Tryz.func78.trans (congrArg some (by kernel_rfl))
 f209:=Tryz.func59.trans (congrArg some (by kernel_rfl))
 t3:=Tryz.underlying3
 a3:=Tryz.isAgg3
 z3:=Tryz.sizeOf3
 v3:=Tryz.zeroValue3
 t4:=Tryz.underlying4
 a4:=Tryz.isAgg4
 z4:=Tryz.sizeOf4
 v4:=Tryz.zeroValue4
 t9:=Tryz.underlying9
 a9:=Tryz.isAgg9
 z9:=Tryz.sizeOf9
 v9:=Tryz.zeroValue9 }
open Go.RowKit Go.Lib in
theorem Tryz.strings_TrimSuffix(s p:ByteArray)(w:World)(hs:s.size≤9223372036854775807) :
 Calls Tryz.prog 30 #[.string s,.string p] w λe w'=>e = .returned (.string ⟨(Lib.trimSuffix s.data.toList p.data.toList).toArray⟩)∧w'=w:=Any.strings_TrimSuffix Tryz.lays102 s p w hs
end Go.Proofs
/- RPok: the primitives give what their functions give. -/
namespace Go.RInst
open Go.Proofs Go.Ax Go.RowKit
variable [PR]
section
variable {E:Env}{I K:Nat→Prop}{ρ:PMap}{w w':World}{H:a08}{h:FHeap}
theorem c0s(r:HRel E.G I K ρ (a04 H) w)(hn:NRel ρ H.length):Ret E I K ρ H.length w I ρ H w:=⟨λ_ h=>h,λ_ _=>rfl,Ext.refl _ _ _,r,hn,Nat.le_refl _⟩
theorem c4d{G:GTab (List AV)}(r:HRel G I K ρ h w)(hb:Below w.heap.size w w'):HRel G I K ρ h w':=by have hI:∀c,I c→w'.heap[c]?=w.heap[c]?:=λc hc=>hb.block c (r.imm c hc);refine⟨λb o hx=>?_,r.inj,λb m hm=>Nat.lt_of_lt_of_le (r.dom b m hm) hb.size,λc hc=>Nat.lt_of_lt_of_le (r.imm c hc) hb.size,λc hc=>Nat.lt_of_lt_of_le (r.kept c hc) hb.size,r.apart,λg cs hg=>⟨(r.glob g cs hg).1,GAt.mono (λ_ h=>h) hI cs (λ_ _ h=>h) (hI g (r.glob g cs hg).1) (r.glob g cs hg).2⟩⟩;obtain⟨m,h1,h2,h3,h4⟩:=r.live b o hx;exact⟨m,h1,h2,h3,ORel.mono o (λ_ h=>h) hI (λ_ _ h=>h) (hb.block _ (r.dom b m h1)) h4⟩
theorem a9g(r:HRel E.G I K ρ (a04 H) w)(hn:NRel ρ H.length)(hb:Below w.heap.size w w'):Ret E I K ρ H.length w I ρ H w':=⟨λ_ h=>h,λ_ _=>rfl,⟨hb.os,hb.tape,hb.output,hb.size,λc hc=>hb.block c (hc.elim (r.imm c) (r.kept c))⟩,c4d r hb,hn,Nat.le_refl _⟩
end
theorem c8z{I:Nat→Prop}{w:World}{ρ:PMap}{s:List UInt8}{c:Value}(h:VRel I w ρ (.str s) c):c = .string ⟨s.toArray⟩:=by
 simp only[VRel]at h;obtain⟨t,rfl,ht⟩:=h
 congr 1
 cases t with
 |mk d=>simp at ht;subst ht;simp
theorem b9h{I:Nat→Prop}{w:World}{ρ:PMap}(s:List UInt8):VRel I w ρ (.str s) (.string ⟨s.toArray⟩):=by simp only[VRel];exact⟨_,rfl,by simp⟩
theorem bsz(s:List UInt8):(⟨s.toArray⟩:ByteArray).size=s.length:=by simp[ByteArray.size]
theorem bdt(s:List UInt8):(⟨s.toArray⟩:ByteArray).data.toList=s:=by simp
theorem b9t{f:Nat}{q:List AV→Option (AV×a08)}(hq:∀a,L.env.prim f a=q a)(hfy:f≠yId)(h0:∀a v H1,q a=some (v,H1)→H1=[])
 (h:∀a v,q a=some (v,[])→∀(I:Nat→Prop) (ρ:PMap) (w:World) (cargs:List Value),(∀g cs,L.env.G g=some cs→I g∧GAt I w cs g)→VRels I w ρ a cargs→
  Calls Tryz.prog f cargs.toArray w λen w'=>∃c,en = .returned c∧Below w.heap.size w w'∧VRel I w' ρ v c):a4j L.env f (primH L.env f):=by
 intro a H v H' hr I K ρ w cargs rel hn ha;unfold primH at hr;rw[hq]at hr;split at hr
 ·cases hr
 ·rename_i v1 he;have:=h0 _ _ _ he;cases this
 ·rename_i r hne he;split at hr
  case h_2=>cases hr
  cases hr;have:=h0 _ _ _ he;subst this;rw[a3m hfy];refine Calls.mono (h a v he I ρ w cargs rel.glob ha) ?_
  rintro en w' ⟨c,rfl,hb,hv⟩
  exact⟨c,I,ρ,rfl,a9g rel hn hb,hv⟩
theorem d78:a4j L.env 73 (primH L.env 73):=by
 refine b9t (q:=d97) (λa=>rfl) (by decide) ?_ ?_
 ·intro a v H1 h;unfold d97 at h;split at h
  ·cases h;rfl
  ·cases h
 ·intro a v h I ρ w cargs hG ha;unfold d97 at h;split at h
  case h_2=>cases h
  rename_i s c;cases h;simp only[VRels]at ha;obtain⟨c1,_,rfl,h1,c2,_,rfl,h2,rfl⟩:=ha;have h1:=c8z h1;have h2:=c8z h2;subst h1;subst h2;refine Calls.mono (Tryz.strings_Count_one ⟨s.toArray⟩ c w) ?_
  rintro en w' ⟨rfl,rfl⟩
  exact⟨_,rfl,Below.refl _ _,by simp[VRel]⟩
theorem d4n:a4j L.env 30 (primH L.env 30):=by
 refine b9t (q:=d7w) (λa=>rfl) (by decide) ?_ ?_
 ·intro a v H1 h;unfold d7w at h;split at h
  ·rw[cond_eq_ite]at h;split at h
   ·cases h;rfl
   ·cases h
  ·cases h
 ·intro a v h I ρ w cargs hG ha;unfold d7w at h;split at h
  case h_2=>cases h
  rename_i s p;rw[cond_eq_ite]at h;split at h
  case isFalse=>cases h
  rename_i hs;cases h;have hs:s.length≤1000000000:=by simpa[b44,Nat.ble_eq]using hs
  simp only[VRels]at ha;obtain⟨c1,_,rfl,h1,c2,_,rfl,h2,rfl⟩:=ha;have h1:=c8z h1;have h2:=c8z h2;subst h1;subst h2;refine Calls.mono (Tryz.strings_TrimSuffix ⟨s.toArray⟩ ⟨p.toArray⟩ w (by rw[bsz];omega)) ?_
  rintro en w' ⟨rfl,rfl⟩
  exact⟨_,rfl,Below.refl _ _,by rw[bdt,bdt];exact b9h _⟩
theorem c2x(w:World)(k:Nat)(os:Array Obj):Below w.heap.size w (Go.Sort.grow (w.drewN k) os):=⟨rfl,rfl,rfl,by show w.heap.size≤(w.heap++os).size;simp,λi hi=>by show(w.heap++os)[i]?=_;rw[Array.getElem?_append_left hi]⟩
theorem d67:a4j L.env 37 (primH L.env 37):=by
 refine b9t (q:=d3s) (λa=>rfl) (by decide) ?_ ?_
 ·intro a v H1 h;unfold d3s at h;split at h
  ·rw[cond_eq_ite]at h;split at h
   ·cases h;rfl
   ·cases h
  ·cases h
 ·intro a v h I ρ w cargs hG ha;unfold d3s at h;split at h
  case h_2=>cases h
  rename_i n;rw[cond_eq_ite]at h;split at h
  case isFalse=>cases h
  rename_i hs;cases h;simp only[Bool.and_eq_true,decide_eq_true_eq]at hs;simp only[VRels,VRel]at ha;obtain⟨c1,_,rfl,rfl,rfl⟩:=ha;obtain⟨_,hat,hend⟩:=hG 3 _ d6j
  have htab:Lib.TabIs Tryz.prog w "internal/strconv.uint64pow10" .u64 Lib.pow10Tab:=by
   have hg:Tryz.prog.globalNamed "internal/strconv.uint64pow10" = some 3:=by kernel_rfl
   have hl:Lib.pow10Tab=[1,10,100,1000,10000,100000,1000000,10000000,100000000,1000000000,10000000000,100000000000,1000000000000,10000000000000,100000000000000,1000000000000000,10000000000000000,100000000000000000,1000000000000000000,10000000000000000000]:=by decide+kernel
   obtain⟨cv,h1,h2⟩:=VAt.cells hat;have hcv:cv=Lib.pow10Tab.map (Value.int .u64):=by rw[hl];simp only[a8d,List.map_cons,List.map_nil,VRels,VRel]at h2;obtain⟨_,_,rfl,rfl,_,_,rfl,rfl,_,_,rfl,rfl,_,_,rfl,rfl,_,_,rfl,rfl,_,_,rfl,rfl,_,_,rfl,rfl,_,_,rfl,rfl,_,_,rfl,rfl,_,_,rfl,rfl,_,_,rfl,rfl,_,_,rfl,rfl,_,_,rfl,rfl,_,_,rfl,rfl,_,_,rfl,rfl,_,_,rfl,rfl,_,_,rfl,rfl,_,_,rfl,rfl,_,_,rfl,rfl,_,_,rfl,rfl,rfl⟩:=h2;rfl
   have hend:=hend (by simp[a8d]);unfold Lib.TabIs World.var?;rw[hg];simp only[Option.bind_some];have hc0:=h1 0 (.int .u64 1) (by rw[hcv,hl];rfl);have hlen:(a8d .u64 [1,10,100,1000,10000,100000,1000000,10000000,100000000,1000000000,10000000000,100000000000,1000000000000,10000000000000,100000000000000,1000000000000000,10000000000000000,100000000000000000,1000000000000000000,10000000000000000000]).length=20:=by rfl
   rw[hlen]at hend;cases hb:w.heap[3]? with
   |none=>simp[World.cell?,hb]at hc0
   |some ob=>
    cases ob with
    |cells arr e fr=>
     simp only
     congr 1
     have hcell:∀j,w.cell? ⟨3,j,none⟩=arr[j]?:=λj=>by simp[World.cell?,hb]
     have hsz:arr.size≤20:=by rw[hcell]at hend;simpa using hend
     apply Array.ext';rw[←hcv];apply List.ext_getElem?;intro j;rw[Array.getElem?_toList,←hcell];rcases Nat.lt_or_ge j cv.length with hj|hj
     ·rw[z9e hj];have:=h1 j cv[j] (by simp);simpa using this
     ·rw[List.getElem?_eq_none hj,hcell];have:cv.length=20:=by rw[hcv,hl];rfl
      simp;omega
    |_=>simp[World.cell?,hb]at hc0
  refine Calls.mono (Tryz.strconv_Itoa n (by omega) (by omega) w htab) ?_
  rintro en w' ⟨rfl,k,os,rfl⟩
  exact⟨_,rfl,c2x _ _ _,b9h _⟩
end Go.RInst
/- RPo2: the primitives that look into memory. -/
namespace Go.RInst
open Go.Proofs Go.Ax Go.RowKit
variable [PR]
theorem b2j{I:Nat→Prop}{w:World}{ρ:PMap}{b:Nat}:∀(l:List (List UInt8)) (off:Nat),VRows I w 1 ρ (a1s l) b off→∀(j:Nat) s,l[j]?=some s→w.cell? ⟨b,off+j,none⟩=some (.string ⟨s.toArray⟩)
 | [],off,h,j,s,hj=>by simp at hj
 |x::l,off,h,j,s,hj=>by
  simp only[a1s,List.map_cons,VRows,VAt]at h;obtain⟨_,⟨⟨c,hc,hv⟩,_⟩,h2⟩:=h;cases j with
  |zero=>simp at hj;subst hj;rw[c8z hv]at hc;simpa using hc
  |succ j=>have:=b2j l (off+1) h2 j s (by simpa using hj);rw[show off+(j+1)=off+1+j by omega];exact this
theorem b3x{I:Nat→Prop}{w:World}{ρ:PMap}{b:Nat}:∀(l:List (List UInt8)) (off:Nat),(∀(j:Nat) s,l[j]?=some s→w.cell? ⟨b,off+j,none⟩=some (.string ⟨s.toArray⟩))→VRows I w 1 ρ (a1s l) b off
 | [],off,h=>by simp[a1s,VRows]
 |x::l,off,h=>by simp only[a1s,List.map_cons,VRows,VAt];refine⟨rfl,⟨⟨_,h 0 x rfl,b9h _⟩,trivial⟩,b3x l (off+1) λj s hj=>?_⟩;have:=h (j+1) s (by simpa using hj);rw[show off+1+j=off+(j+1) by omega];exact this
theorem a4o(l:List (List UInt8)):(a1s l).length=l.length:=by simp[a1s]
theorem b8f(l:List (List UInt8))(sep:List UInt8)(hj:okJ l sep=true)(b off c:Nat)(w:World)(hb:b<w.heap.size)(hcap:l.length≤c)(hc:∀(j:Nat) s,l[j]?=some s→w.cell? ⟨b,off+j,none⟩=some (.string ⟨s.toArray⟩)) :
 Calls Tryz.prog 24 #[.slice (some ⟨b,off,none⟩) l.length c,.string ⟨sep.toArray⟩] w λe w'=>e = .returned (.string ⟨(Lib.join l sep).toArray⟩)∧Below w.heap.size w w':=by
 simp only[okJ,Bool.and_eq_true,Nat.ble_eq,b44]at hj;have e1:(l.map λs=>(⟨s.toArray⟩:ByteArray)).map (·.data.toList)=l:=by
  rw[List.map_map]
  conv=>rhs;rw[←List.map_id l]
  exact List.map_congr_left λs _=>by simp
 have h:=Tryz.strings_Join b off c (l.map λs=>(⟨s.toArray⟩:ByteArray)) ⟨sep.toArray⟩ w (λj x hx=>by rw[List.getElem?_map]at hx;obtain⟨s,hs,rfl⟩:=Option.map_eq_some_iff.1 hx;exact hc j s hs) hb (by rw[List.length_map];omega) (by rw[List.length_map];exact hcap) (by rw[e1];simp only[];have:=hj.2;omega);rw[List.length_map,e1]at h;exact h
theorem c0q{I:Nat→Prop}{w:World}{ρ:PMap}{b:Nat}:∀(rows:List (List AV)) (off:Nat),VRows I w 1 ρ rows b off→∀(j:Nat) s,rows[j]?=some [.str s]→w.cell? ⟨b,off+j,none⟩=some (.string ⟨s.toArray⟩)
 | [],off,h,j,s,hj=>by simp at hj
 |x::l,off,h,j,s,hj=>by
  simp only[VRows]at h;obtain⟨_,h1,h2⟩:=h;cases j with
  |zero=>simp at hj;subst hj;simp only[VAt]at h1;obtain⟨⟨c,hc,hv⟩,_⟩:=h1;rw[c8z hv]at hc;simpa using hc
  |succ j=>have:=c0q l (off+1) h2 j s (by simpa using hj);rw[show off+(j+1)=off+1+j by omega];exact this
theorem b9z(args:List AV)(H:a08):primH L.env 24 args H=bif b8g args then none else c00 args H:=by
 have e:L.env.prim 24 args=bif !b8g args then some (.junk,[none])else none:=by show c4l PR.pr 24 args=_;unfold c4l;cases b8g args<;>rfl
 unfold primH;rw[e];cases b8g args<;>rfl
theorem d1h:a4j L.env 24 (primH L.env 24):=by
 intro args H v H' hr I K ρ w cargs rel hn ha;rw[b9z]at hr;cases hz:b8g args with
 |true=>rw[hz]at hr;cases hr
 |false=>
 rw[hz]at hr;simp only[cond_false]at hr;rw[a3m (by decide)];unfold c00 at hr;split at hr
 ·rename_i c o n cap sep k rows;rw[cond_eq_ite]at hr;split at hr
  case isFalse=>cases hr
  rename_i hc;simp only[Bool.and_eq_true,Nat.beq_eq,Nat.blt_eq,Nat.ble_eq]at hc;obtain⟨⟨⟨rfl,rfl⟩,hon⟩,hpos⟩:=hc;split at hr
  case h_2=>cases hr
  rename_i l hl;rw[cond_eq_ite]at hr;split at hr
  case isFalse=>cases hr
  rename_i hj;cases hr;have hrl:=b6b hl;have hll:l.length=n:=by have:=congrArg List.length hrl;rw[a4o,List.length_take,List.length_drop]at this;omega
  obtain⟨m,hm,_,_,hk,hk0,_,hrows⟩:=rel.live 0 (.row 1 rows) rfl;simp only[VRels,VRel]at ha;obtain⟨_,_,rfl,⟨a,cc,rfl,hle,_,hor⟩,_,_,rfl,ht,rfl⟩:=ha;obtain⟨t,rfl,ht⟩:=ht;have ht:t=⟨sep.toArray⟩:=by cases t;simp at ht;subst ht;simp
  subst ht;obtain⟨m',hm',rfl,_⟩:=hor.resolve_left (by omega);obtain rfl:m=m':=z9o (hm.symm.trans hm');have hcells:∀(j:Nat) s,l[j]?=some s→w.cell? ⟨m.blk,m.off+o*m.k+j,none⟩=some (.string ⟨s.toArray⟩):=by
   intro j s hjs;have h1:(a1s l)[j]?=some [.str s]:=by unfold a1s;rw[List.getElem?_map,hjs];rfl
   rw[←hrl,List.getElem?_take]at h1;split at h1
   case isFalse=>cases h1
   rw[List.getElem?_drop]at h1;have:=c0q rows m.off hrows (o+j) s h1;have hk1:m.k=1:=by omega
   rw[hk1,show m.off+o*1+j=m.off+(o+j) by omega];exact this
  have:=b8f l sep hj m.blk (m.off+o*m.k) cc w (rel.dom 0 m hm) (by omega) hcells;rw[hll]at this;refine Calls.mono this ?_
  rintro en w' ⟨rfl,hb⟩
  exact⟨_,I,ρ,rfl,a9g (H:=[some (.row 1 rows)]) rel hn hb,b9h _⟩
 ·rename_i rows cap sep;rw[cond_eq_ite]at hr;split at hr
  case isFalse=>cases hr
  rename_i hc;have hpos:0<rows.length:=by simpa[Nat.blt_eq]using hc
  split at hr
  case h_2=>cases hr
  rename_i l hl;rw[cond_eq_ite]at hr;split at hr
  case isFalse=>cases hr
  rename_i hj;cases hr;have:=b6b hl;subst this;simp only[VRels,VRel]at ha;obtain⟨_,_,rfl,⟨a,cc,k,rfl,hle,_,hor⟩,_,_,rfl,ht,rfl⟩:=ha;obtain⟨t,rfl,ht⟩:=ht;have ht:t=⟨sep.toArray⟩:=by cases t;simp at ht;subst ht;simp
  subst ht;rw[a4o]at hpos hle;obtain⟨hs,hI,hrows⟩:=hor.resolve_left (by intro e;have:=congrArg List.length e;rw[a4o]at this;simp at this;rw[this]at hpos;simp at hpos);have hk:k=1:=by
   cases l with
   |nil=>simp at hpos
   |cons x l=>simp only[a1s,List.map_cons,VRows]at hrows;exact hrows.1.symm
  subst hk;have ha:a=⟨a.block,a.off,none⟩:=by cases a;simp_all
  have:=b8f l sep hj a.block a.off cc w (rel.imm _ hI) hle (b2j l a.off hrows);rw[←ha]at this;rw[a4o];refine Calls.mono this ?_
  rintro en w' ⟨rfl,hb⟩
  exact⟨_,I,ρ,rfl,a9g (H:=[]) rel hn hb,b9h _⟩
 ·cases hr
theorem c0u{G:GTab (List AV)}{I K:Nat→Prop}{ρ:PMap}{w w':World}{o o':AObj}{m:Pl}(r:HRel G I K ρ (a04 [some o]) w)(hm:ρ 0=some m)(hs:w.heap.size≤w'.heap.size)(hw:∀k,k<w.heap.size→k≠m.blk→w'.heap[k]?=w.heap[k]?)
 (ho:(∀c,I c→w'.heap[c]?=w.heap[c]?)→ORel G I w' ρ m o'):HRel G I K ρ (a04 [some o']) w':=by
 obtain⟨m0,h1,h2,h3,_⟩:=r.live 0 o rfl;obtain rfl:m0=m:=z9o (h1.symm.trans hm);have hI:∀c,I c→w'.heap[c]?=w.heap[c]?:=λc hc=>hw c (r.imm c hc) (λe=>h2 (e▸hc));have hone:∀{o1:AObj} {b x},a04 [some o1] b=some x→b=0∧x=o1:=by
  intro o1 b x hx;cases b with
  |zero=>simp[a04]at hx;exact⟨rfl,hx.symm⟩
  |succ b=>simp[a04]at hx
 refine⟨λb x hx=>?_,λb b' p p' hb hb' hp hp' he=>?_,λb p hp=>Nat.lt_of_lt_of_le (r.dom b p hp) hs,λc hc=>Nat.lt_of_lt_of_le (r.imm c hc) hs,λc hc=>Nat.lt_of_lt_of_le (r.kept c hc) hs,r.apart,λg cs hg=>⟨(r.glob g cs hg).1,GAt.mono (λ_ h=>h) hI cs (λ_ _ h=>h) (hI g (r.glob g cs hg).1) (r.glob g cs hg).2⟩⟩
 ·obtain⟨rfl,rfl⟩:=hone hx;exact⟨m0,hm,h2,h3,ho hI⟩
 ·obtain⟨x,hx⟩:=Option.isSome_iff_exists.1 hb;obtain⟨x',hx'⟩:=Option.isSome_iff_exists.1 hb';rw[(hone hx).1,(hone hx').1]
theorem c4c{G:GTab (List AV)}{I K:Nat→Prop}{ρ:PMap}{w w':World}{o o' o1:AObj}{m:Pl}(r:HRel G I K ρ (a04 [some o,some o1]) w)(hm:ρ 0=some m)(hs:w.heap.size≤w'.heap.size)(hw:∀k,k<w.heap.size→k≠m.blk→w'.heap[k]?=w.heap[k]?)
 (ho:(∀c,I c→w'.heap[c]?=w.heap[c]?)→ORel G I w' ρ m o'):HRel G I K ρ (a04 [some o',some o1]) w':=by
 obtain⟨m0,h1,h2,h3,_⟩:=r.live 0 o rfl;obtain rfl:m0=m:=z9o (h1.symm.trans hm);have hI:∀c,I c→w'.heap[c]?=w.heap[c]?:=λc hc=>hw c (r.imm c hc) (λe=>h2 (e▸hc));have htwo:∀{p q:AObj} {b x},a04 [some p,some q] b=some x→(b=0∧x=p)∨(b=1∧x=q):=by
  intro p q b x hx
  match b,hx with
  |0,hx=>simp[a04]at hx;exact .inl ⟨rfl,hx.symm⟩
  |1,hx=>simp[a04]at hx;exact .inr ⟨rfl,hx.symm⟩
  |b+2,hx=>simp[a04]at hx
 have hsome:∀{p q:AObj} {b},(a04 [some p,some q] b).isSome=true→(a04 [some o,some o1] b).isSome=true:=by intro p q b hb;obtain⟨x,hx⟩:=Option.isSome_iff_exists.1 hb;rcases htwo hx with ⟨rfl,_⟩|⟨rfl,_⟩<;>rfl
 refine⟨λb x hx=>?_,λb b' p p' hb hb' hp hp' he=>r.inj b b' p p' (hsome hb) (hsome hb') hp hp' he,λb p hp=>Nat.lt_of_lt_of_le (r.dom b p hp) hs,λc hc=>Nat.lt_of_lt_of_le (r.imm c hc) hs,λc hc=>Nat.lt_of_lt_of_le (r.kept c hc) hs,r.apart,λg cs hg=>⟨(r.glob g cs hg).1,GAt.mono (λ_ h=>h) hI cs (λ_ _ h=>h) (hI g (r.glob g cs hg).1) (r.glob g cs hg).2⟩⟩;rcases htwo hx with ⟨rfl,rfl⟩|⟨rfl,rfl⟩
 ·exact⟨m0,hm,h2,h3,ho hI⟩
 ·obtain⟨m1,g1,g2,g3,g4⟩:=r.live 1 x rfl;refine⟨m1,g1,g2,g3,ORel.mono x (λ_ h=>h) hI (λ_ _ h=>h) (hw _ (r.dom 1 m1 g1) (λe=>?_)) g4⟩;have:=r.inj 1 0 m1 m0 rfl rfl g1 hm e;omega
theorem d0f:a4j L.env 70 (primH L.env 70):=by
 have e:primH L.env 70=c44:=rfl;rw[e];intro args H v H' hr I K ρ w cargs rel hn ha;rw[a3m (by decide)];unfold c44 at hr;split at hr
 case h_2=>cases hr
 rename_i c n cap k rows;rw[cond_eq_ite]at hr;split at hr
 case isFalse=>cases hr
 rename_i hc;simp only[Bool.and_eq_true,Nat.beq_eq,Nat.blt_eq,Nat.ble_eq,b44]at hc;obtain⟨⟨⟨⟨rfl,rfl⟩,rfl⟩,hpos⟩,hbig⟩:=hc;obtain⟨l,hl,he⟩:=Option.map_eq_some_iff.1 hr;cases he;have:=b6b hl;subst this;obtain⟨m,hm,hnI,hnK,hk,hk0,⟨arr,e,hblk,hroom,hfit⟩,hrows⟩:=rel.live 0 (.row 1 (a1s l)) rfl;simp only[VRels,VRel]at ha;obtain⟨_,_,rfl,⟨a,cc,rfl,hle,_,hor⟩,rfl⟩:=ha;rw[a4o]at hpos hle hbig;obtain⟨m',hm',rfl,_⟩:=hor.resolve_left (by omega);obtain rfl:m=m':=z9o (hm.symm.trans hm');have hcells:=b2j l m.off hrows;have hH:Go.Sort.Holds encStr w m.blk m.off l.toArray:=by
  intro j hj;have hj':j<l.length:=by simpa using hj
  refine⟨?_,by simp[World.frozen?,hblk]⟩;rw[hcells j l[j] (z9e hj')];simp[encStr,hj']
 have hcl:=Tryz.slices_Sort_string m.blk m.off cc l w hH (rel.dom 0 m hm) (by omega);rw[a4o,show m.off+0*m.k=m.off by omega];refine Calls.mono hcl ?_
 rintro en w' ⟨rfl,q,os,rfl⟩
 rw[b9l];have hlen:(a49 l).length=l.length:=(a66 l).length_eq;have hput:(Go.Sort.putRow encStr (Go.Sort.ahead w q) m.blk m.off (a49 l).toArray).heap[m.blk]?=some (.cells (Go.Sort.putCells encStr m.off (a49 l).toArray arr) e (0,0)):=by show(w.heap.modify m.blk _)[m.blk]?=_;rw[Array.getElem?_modify,if_pos rfl,hblk];rfl
 have hsz:(Go.Sort.putRow encStr (Go.Sort.ahead w q) m.blk m.off (a49 l).toArray).heap.size=w.heap.size:=Go.Sort.size_putRow ..;have hoth:∀k,k<w.heap.size→k≠m.blk→(Go.Sort.grow (Go.Sort.putRow encStr (Go.Sort.ahead w q) m.blk m.off (a49 l).toArray) os).heap[k]?=w.heap[k]?:=by intro k hk hne;show((Go.Sort.putRow _ _ _ _ _).heap++os)[k]?=_;rw[Array.getElem?_append_left (by rw[hsz];exact hk)];show(w.heap.modify m.blk _)[k]?=_;rw[Array.getElem?_modify,if_neg (Ne.symm hne)]
 have hsize:w.heap.size≤(Go.Sort.grow (Go.Sort.putRow encStr (Go.Sort.ahead w q) m.blk m.off (a49 l).toArray) os).heap.size:=by show _≤((Go.Sort.putRow _ _ _ _ _).heap++os).size;rw[Array.size_append,hsz];omega
 have hdm:=rel.dom 0 m hm;refine⟨_,I,ρ,rfl,⟨λ_ h=>h,λ_ _=>rfl,⟨rfl,rfl,rfl,hsize,λc hc=>hoth c (hc.elim (rel.imm c) (rel.kept c)) (λe=>by subst e;exact hc.elim hnI hnK)⟩,c0u rel hm hsize hoth λhI=>?_,hn,Nat.le_refl _⟩,?_⟩
 ·refine⟨hk,hk0,⟨Go.Sort.putCells encStr m.off (a49 l).toArray arr,e,?_,?_,?_⟩,?_⟩
  ·show((Go.Sort.putRow _ _ _ _ _).heap++os)[m.blk]?=_;rw[Array.getElem?_append_left (by rw[hsz];exact hdm)];exact hput
  ·simp[Go.Sort.putCells,hroom]
  ·rw[a4o]at hfit⊢;rw[hlen];exact hfit
  ·refine b3x _ _ λj s hj=>?_;have hj':j<(a49 l).length:=(List.getElem?_eq_some_iff.1 hj).1;have h1:(Go.Sort.grow (Go.Sort.putRow encStr (Go.Sort.ahead w q) m.blk m.off (a49 l).toArray) os).heap[m.blk]?=some (.cells (Go.Sort.putCells encStr m.off (a49 l).toArray arr) e (0,0)):=by
    show((Go.Sort.putRow _ _ _ _ _).heap++os)[m.blk]?=_;rw[Array.getElem?_append_left (by rw[hsz];exact hdm)];exact hput
   rw[a1l h1];rw[a4o]at hfit;have hin:m.off+j<arr.size:=by omega
   simp only[Go.Sort.putCells,Array.getElem?_mapIdx,Array.getElem?_eq_getElem hin,Option.map_some];rw[if_pos ⟨by omega,by simp;omega⟩,show m.off+j-m.off=j by omega];have:(a49 l).toArray[j]! = s:=by obtain⟨_,h2⟩:=List.getElem?_eq_some_iff.1 hj;simp[hj',h2]
   rw[this]
 ·simp only[VRel];exact⟨#[],rfl,by simp[VRels]⟩
end Go.RInst
/- RPo3: the primitives of strings.Builder. -/
namespace Go.RInst
open Go.Proofs Go.Ax Go.RowKit
variable [PR]
theorem c47{b:AV}(h:a7a b=true):b = .nilptr∨b = .ptr 0 0 0:=by
 unfold a7a at h;split at h
 ·exact .inl rfl
 ·simp only[Bool.and_eq_true,Nat.beq_eq]at h;obtain⟨rfl,rfl,rfl⟩:=h;exact .inr rfl
 ·cases h
theorem a87{b:AV}(h:a7a b=true)(hn:(!(a5d b .nilptr))=true):b = .ptr 0 0 0:=by
 rcases c47 h with rfl|rfl
 ·simp[a5d]at hn
 ·rfl
theorem b8v{I:Nat→Prop}{w:World}{ρ:PMap}{b:Nat}{rows:List (List AV)}(h:VRows I w 1 ρ rows b 0):∃xs:List Value,xs.length=rows.length∧(∀(j:Nat) x,xs[j]?=some x→w.cell? ⟨b,j,none⟩=some x)∧VRels I w ρ rows.flatten xs:=by rw[VRows.iff]at h;obtain⟨cv,h1,h2⟩:=VAt.cells h.2;refine⟨cv,?_,λj x hx=>by simpa using h1 j x hx,h2⟩;rw[←VRels.length h2,a16 h.1];omega
theorem b5w{I:Nat→Prop}{w:World}{ρ:PMap}{m:Pl}{p v:AV}(h:ORel L.env.G I w ρ m (.trow 82 true 2 [[p,v]])):∃cp cv,w.heap[m.blk]?=some (.cells #[cp,cv] 82 (0,0))∧VRel I w ρ p cp∧VRel I w ρ v cv∧m.off=0∧m.k=2∧m.room=2:=by
 obtain⟨h0,hk,_,⟨arr,hb,hs,_,hx⟩,hr⟩:=h;have hroom:=hx rfl;simp only[List.length_cons,List.length_nil]at hroom;simp only[VRows,VAt]at hr;obtain⟨_,⟨⟨c1,hc1,h1⟩,⟨c2,hc2,h2⟩,_⟩,_⟩:=hr;rw[a1l hb]at hc1 hc2;refine⟨c1,c2,?_,h1,h2,h0,hk,by omega⟩;rw[hb]
 congr 2
 have:arr.size=2:=by omega
 apply Array.ext_getElem?;intro j
 match j with
 |0=>simpa using hc1
 |1=>simpa using hc2
 |j+2=>rw[Array.getElem?_eq_none (by omega)];simp
theorem c65{I:Nat→Prop}{w:World}{ρ:PMap}{m:Pl}{p v:AV}{cp cv:Value}(hb:w.heap[m.blk]?=some (.cells #[cp,cv] 82 (0,0)))(h1:VRel I w ρ p cp)(h2:VRel I w ρ v cv)(h0:m.off=0)(hk:m.k=2)(hroom:m.room=2):ORel L.env.G I w ρ m (.trow 82 true 2 [[p,v]]):=by
 refine⟨h0,hk,by decide,⟨_,hb,by simp[hroom],by simp[hroom],λ_=>by simp[hroom]⟩,?_⟩;simp only[VRows,VAt];refine⟨rfl,⟨⟨cp,?_,h1⟩,⟨cv,?_,h2⟩,trivial⟩,trivial⟩
 ·rw[a1l hb];rfl
 ·rw[a1l hb];rfl
theorem c9a{I:Nat→Prop}{w:World}{ρ:PMap}{m:Pl}{p:AV}{cp:Value}(hm:ρ 0=some m)(h0:m.off=0)(hp:a7a p=true)(hv:VRel I w ρ p cp):cp = .pointer none∨cp=a35 m.blk:=by
 rcases c47 hp with rfl|rfl
 ·simp only[VRel]at hv;exact .inl hv
 ·simp only[VRel]at hv;obtain⟨m',hm',rfl⟩:=hv;obtain rfl:m=m':=z9o (hm.symm.trans hm');right;simp[h0]
theorem d5x:a4j L.env 38 (primH L.env 38):=by
 have e:primH L.env 38=e0u:=rfl;rw[e];intro args H v H' hr I K ρ w cargs rel hn ha;rw[a3m (by decide)];unfold e0u at hr;split at hr
 case h_2=>cases hr
 rename_i b t k p v1 H1;rw[cond_eq_ite]at hr;split at hr
 case isFalse=>cases hr
 rename_i hc;simp only[Bool.and_eq_true,Nat.beq_eq]at hc;obtain⟨⟨⟨rfl,rfl⟩,hs⟩,hs2⟩:=hc;obtain rfl:=a87 hs hs2;obtain⟨m,hm,_,_,ho⟩:=rel.live 0 (.trow 82 true 2 [[p,v1]]) rfl;obtain⟨cp,cv,hb,h1,h2,h0,hk,hroom⟩:=b5w ho;simp only[VRels,VRel]at ha;obtain⟨_,_,rfl,⟨m',hm',rfl⟩,rfl⟩:=ha;obtain rfl:m=m':=z9o (hm.symm.trans hm');have hself:(Value.pointer (some ⟨m.blk,m.off+0*m.k+0,none⟩))=a35 m.blk:=by simp[h0]
 rw[hself];split at hr
 ·cases hr;simp only[VRel]at h2;subst h2;refine Calls.mono (Tryz.bLen m.blk cp none 0 0 w hb) ?_
  rintro en w' ⟨rfl,rfl⟩
  exact⟨_,I,ρ,rfl,c0s rel hn,by simp[VRel]⟩
 ·rename_i g off n cap;cases hr;simp only[VRel]at h2;obtain⟨a,c,rfl,_⟩:=h2;refine Calls.mono (Tryz.bLen m.blk cp (some a) n c w hb) ?_
  rintro en w' ⟨rfl,rfl⟩
  exact⟨_,I,ρ,rfl,c0s rel hn,by simp[VRel]⟩
 ·cases hr
theorem a71{w:World}{g n:Nat}(k:Nat)(h:k≠g):(w.drew.freeze ⟨g,0,none⟩ n).heap[k]?=w.heap[k]?:=by
 unfold World.freeze;split
 ·rfl
 ·show(w.heap.modify g _)[k]?=_;rw[Array.getElem?_modify,if_neg (Ne.symm h)]
theorem a7h{w:World}{g n:Nat}:(w.drew.freeze ⟨g,0,none⟩ n).heap.size=w.heap.size:=by
 unfold World.freeze;split
 ·rfl
 ·show(w.heap.modify g _).size=_;simp
theorem c4b{G:GTab (List AV)}{I K:Nat→Prop}{ρ ρ':PMap}{w w':World}{o0:AObj}{o1:Option AObj}{H0:a08}(r:HRel G I K ρ (a04 H0) w)(hI:∀c,I c→w'.heap[c]?=w.heap[c]?)(hs:w.heap.size≤w'.heap.size)(hdom:∀b m,ρ' b=some m→m.blk<w'.heap.size)(m0:Pl)(hm0:ρ' 0=some m0)(h0:¬I m0.blk∧¬K m0.blk∧ORel G I w' ρ' m0 o0)(k:Nat)
 (h1:∀o,o1=some o→∃m1,ρ' (k+1)=some m1∧¬I m1.blk∧¬K m1.blk∧m1.blk≠m0.blk∧ORel G I w' ρ' m1 o):HRel G I K ρ' (a04 (some o0::(List.replicate k none++[o1]))) w':=by
 have hat:∀b x,a04 (some o0::(List.replicate k none++[o1])) b=some x→(b=0∧x=o0)∨(b=k+1∧o1=some x):=by
  intro b x hx;unfold a04 at hx;cases b with
  |zero=>simp at hx;exact .inl ⟨rfl,hx.symm⟩
  |succ b=>
   simp only[List.getElem?_cons_succ]at hx;rcases Nat.lt_trichotomy b k with hb|hb|hb
   ·rw[List.getElem?_append_left (by simpa using hb)]at hx;simp[hb]at hx
   ·subst hb;rw[List.getElem?_append_right (by simp)]at hx;simp at hx;exact .inr ⟨rfl,hx⟩
   ·rw[List.getElem?_append_right (by simp;omega)]at hx;rw[List.getElem?_eq_none (by simp;omega)]at hx;simp at hx
 refine⟨λb x hx=>?_,λb b' p p' hb hb' hp hp' he=>?_,hdom,λc hc=>Nat.lt_of_lt_of_le (r.imm c hc) hs,λc hc=>Nat.lt_of_lt_of_le (r.kept c hc) hs,r.apart,λg cs hg=>⟨(r.glob g cs hg).1,GAt.mono (λ_ h=>h) hI cs (λ_ _ h=>h) (hI g (r.glob g cs hg).1) (r.glob g cs hg).2⟩⟩
 ·rcases hat b x hx with ⟨rfl,rfl⟩|⟨rfl,he⟩
  ·exact⟨m0,hm0,h0⟩
  ·obtain⟨m1,q1,q2,q3,_,q4⟩:=h1 x he;exact⟨m1,q1,q2,q3,q4⟩
 ·obtain⟨x,hx⟩:=Option.isSome_iff_exists.1 hb;obtain⟨x',hx'⟩:=Option.isSome_iff_exists.1 hb';rcases hat b x hx with ⟨rfl,rfl⟩|⟨rfl,e1⟩<;>rcases hat b' x' hx' with ⟨rfl,rfl⟩|⟨rfl,e2⟩
  ·rfl
  ·obtain⟨m1,q1,_,_,q3,_⟩:=h1 x' e2;rw[hm0]at hp;cases hp;rw[q1]at hp';cases hp';exact absurd he.symm q3
  ·obtain⟨m1,q1,_,_,q3,_⟩:=h1 x e1;rw[q1]at hp;cases hp;rw[hm0]at hp';cases hp';exact absurd he q3
  ·rfl
theorem d4u:a4j L.env 39 (primH L.env 39):=by
 have e:primH L.env 39=d0c:=rfl;rw[e];intro args H v H' hr I K ρ w cargs rel hn ha;rw[a3m (by decide)];unfold d0c at hr;split at hr
 ·rename_i b t k p;rw[cond_eq_ite]at hr;split at hr
  case isFalse=>cases hr
  rename_i hc;simp only[Bool.and_eq_true,Nat.beq_eq]at hc;obtain⟨⟨⟨rfl,rfl⟩,hs⟩,hs2⟩:=hc;obtain rfl:=a87 hs hs2;obtain⟨m,hm,_,_,ho⟩:=rel.live 0 (.trow 82 true 2 [[p,.nilslice]]) rfl;obtain⟨cp,cv,hb,h1,h2,h0,hk,hroom⟩:=b5w ho;simp only[VRels,VRel]at ha;obtain⟨_,_,rfl,⟨m',hm',rfl⟩,rfl⟩:=ha;obtain rfl:m=m':=z9o (hm.symm.trans hm');have hself:(Value.pointer (some ⟨m.blk,m.off+0*m.k+0,none⟩))=a35 m.blk:=by simp[h0]
  rw[hself];cases hr;simp only[VRel]at h2;subst h2;refine Calls.mono (Tryz.bString_nil m.blk cp w hb) ?_
  rintro en w' ⟨rfl,rfl⟩
  exact⟨_,I,ρ,rfl,a9g (w':=w.drew) rel hn (Below.drew (Below.refl _ _)),b9h []⟩
 ·rename_i b t k p c n u k1 rows;rw[cond_eq_ite]at hr;split at hr
  case isFalse=>cases hr
  rename_i hc;simp only[Bool.and_eq_true,Nat.beq_eq,Nat.blt_eq,Nat.ble_eq,b44]at hc;obtain⟨⟨⟨⟨⟨⟨⟨⟨⟨rfl,rfl⟩,hs⟩,hs2⟩,rfl⟩,rfl⟩,rfl⟩,rfl⟩,hpos⟩,hbig⟩:=hc;obtain rfl:=a87 hs hs2;obtain⟨l,hl,he⟩:=Option.map_eq_some_iff.1 hr;cases he;obtain rfl:=c3p hl;obtain⟨m,hm,hI0,hK0,ho⟩:=rel.live 0 (.trow 82 true 2 [[p,.slice 1 0 (a1f l).length none]]) rfl;obtain⟨cp,cv,hb,h1,h2,h0,hk,hroom⟩:=b5w ho;obtain⟨m1,hm1,hI1,hK1,g0,gk,_,⟨arr,hg,hgs,hgl,_⟩,hgr⟩:=rel.live 1 (.trow 5 false 1 (a1f l)) rfl;have hne:m1.blk≠m.blk:=λe=>by have:=rel.inj 1 0 m1 m rfl rfl hm1 hm e;omega
  simp only[VRels,VRel]at ha;obtain⟨_,_,rfl,⟨m',hm',rfl⟩,rfl⟩:=ha;obtain rfl:m=m':=z9o (hm.symm.trans hm');have hself:(Value.pointer (some ⟨m.blk,m.off+0*m.k+0,none⟩))=a35 m.blk:=by simp[h0]
  rw[hself];have hbl:(a1f l).length=l.length:=by simp[a1f]
  simp only[VRel]at h2;obtain⟨a,cc,rfl,hle,_,hor⟩:=h2;rw[hbl]at hpos hle hbig hb;obtain⟨m1',hm1',rfl,hcr⟩:=hor.resolve_left (by omega);obtain rfl:m1=m1':=z9o (hm1.symm.trans hm1');have hbuf:c6u w m1.blk 5 cc (Lib.byteCells l):=by
   refine⟨arr,hg,by rw[g0,gk]at hcr;omega,λj x hx=>?_⟩;obtain⟨xs,hx1,hx2,hx3⟩:=b8v hgr;have hxs:xs=Lib.byteCells l:=by
    have hall:∀(l:List UInt8) (xs:List Value),VRels I w ρ (a1f l).flatten xs→xs=Lib.byteCells l:=by
     intro l
     induction l with
     |nil=>intro xs h;simpa[a1f,VRels,Lib.byteCells]using h
     |cons b l ih=>intro xs h;simp only[a1f,List.map_cons,List.flatten_cons,List.cons_append,List.nil_append,VRels,VRel]at h;obtain⟨_,xs',rfl,rfl,h⟩:=h;rw[ih xs' h];rfl
    exact hall l xs hx3
   have:=hx2 j x (by rw[hxs];exact hx);rw[a1l hg]at this;exact this
  have haddr:(⟨m1.blk,m1.off+0*m1.k,none⟩:Addr)=⟨m1.blk,0,none⟩:=by rw[g0];simp
  rw[haddr]at hb;refine Calls.mono (Tryz.bString m.blk cp m1.blk cc l w hb (by intro e;subst e;simp at hpos) hle (by omega) hbuf) ?_
  rintro en w' ⟨rfl,rfl⟩
  have hIw:∀c,I c→(w.drew.freeze ⟨m1.blk,0,none⟩ l.length).heap[c]?=w.heap[c]?:=λc hc=>a71 c (λe=>hI1 (e▸hc));have hbm:=a71 (w:=w) (g:=m1.blk) (n:=l.length) m.blk (Ne.symm hne);refine⟨_,I,ρ,rfl,⟨λ_ h=>h,λ_ _=>rfl,⟨?_,?_,?_,by rw[a7h];exact Nat.le_refl _,λc hc=>a71 c (λe=>by subst e;exact hc.elim hI1 hK1)⟩,?_,hn,Nat.le_refl _⟩,b9h l⟩
  ·unfold World.freeze;split<;>rfl
  ·unfold World.freeze;split<;>rfl
  ·unfold World.freeze;split<;>rfl
  ·refine c4b (o1:=none) (k:=0) rel hIw (by rw[a7h];exact Nat.le_refl _) (λb p hp=>by rw[a7h];exact rel.dom b p hp) m hm ⟨hI0,hK0,?_⟩ (λo h=>by cases h);exact ORel.mono _ (λ_ h=>h) hIw (λ_ _ h=>h) hbm ho
 ·cases hr
end Go.RInst
/- RPo4: WriteString, and all primitives. -/
namespace Go.RInst
open Go.Proofs Go.Ax Go.RowKit
variable [PR]
theorem d59{n:Nat}(h:n≤1000000000):a2g L.env 5 n=true:=by
 have hb:L.env.bytes 5=1:=by kernel_rfl
 simp only[a2g,hb,Bool.and_eq_true,decide_eq_true_eq];omega
theorem c76:L.env.und 80=some (.slice 5):=by kernel_rfl
theorem d7v:L.env.und 9=some .string:=by kernel_rfl
theorem e3s:∃d,L.env.und 5=some d:=⟨.int .u8,by kernel_rfl⟩
theorem d4f:L.env.zero 5=some [.int .u8 0]:=by kernel_rfl
theorem e1m:L.env.sz 5=1:=by kernel_rfl
theorem b7m{I:Nat→Prop}{w:World}{ρ:PMap}(s:List UInt8):VRels I w ρ (a1f s).flatten (Lib.strCells ⟨s.toArray⟩):=by have:=a6l (I:=I) (w:=w) (ρ:=ρ) s;simpa[Lib.strCells,a1f]using this
theorem c3e{I K:Nat→Prop}{ρ:PMap}{w w1 w2:World}{H0:a08}{m:Pl}{v':Value}{xs:List Value}{rows:List (List AV)}{k:Nat}{g:Option Nat}{cv:Value}(rel:HRel L.env.G I K ρ (a04 H0) w)(hlen:H0.length=k+1)(hn:NRel ρ (k+1))(hm:ρ 0=some m)(hI0:¬I m.blk)(hK0:¬K m.blk)(h0:m.off=0)(hk:m.k=2)(hroom:m.room=2)
 (hgI:∀b,g=some b→¬I b∧¬K b∧b≠m.blk)(hw2:w2.heap[m.blk]?=some (.cells #[a35 m.blk,cv] 82 (0,0)))(ho1:OnlyB w w1 m.blk none)(ho2:OnlyB w1 w2 m.blk g)(hb:Buffed w1 w2 g 5 v' xs)(hxs:VRels I w ρ rows.flatten xs)(hrk:∀r∈rows,r.length=1)(hkk:1≤k+1) :
 ∃ρ',Ret L.env I K ρ (k+1) w I ρ' (some (.trow 82 true 2 [[.ptr 0 0 0,.slice (k+1) 0 rows.length none]])::(List.replicate k none++[some (.trow 5 false 1 rows)])) (w2.setCell ⟨m.blk,1,none⟩ v'):=by
 obtain⟨g',c',rfl,hc',hg',cur,hcur,hcc,hcx⟩:=hb.buf;have hdm:=rel.dom 0 m hm;have hs1:=ho1.size;have hs2:=ho2.size;have hg'I:¬I g'∧¬K g'∧g'≠m.blk:=by
  rcases hg' with e|e
  ·exact hgI g' e.symm
  ·exact⟨λh=>by have:=rel.imm g' h;omega,λh=>by have:=rel.kept g' h;omega,by omega⟩
 have hxl:xs.length=rows.length:=by rw[←VRels.length hxs,a16 hrk];omega
 have hoth:∀q,q<w.heap.size→q≠m.blk→some q≠g→(w2.setCell ⟨m.blk,1,none⟩ (.slice (some ⟨g',0,none⟩) xs.length c')).heap[q]?=w.heap[q]?:=by intro q hq h1 h2;rw[Below.heap_setCell _ _ _ _ h1,ho2.other q (by omega) h1 h2,ho1.other q hq h1 (by simp)]
 have hIw:∀c,I c→(w2.setCell ⟨m.blk,1,none⟩ (.slice (some ⟨g',0,none⟩) xs.length c')).heap[c]?=w.heap[c]?:=λc hc=>hoth c (rel.imm c hc) (λe=>hI0 (e▸hc)) (λe=>(hgI c e.symm).1 hc);have hsz:(w2.setCell ⟨m.blk,1,none⟩ (.slice (some ⟨g',0,none⟩) xs.length c')).heap.size=w2.heap.size:=by simp
 have hρ1:ρ (k+1)=none:=hn (k+1) (Nat.le_refl _);have hmono:∀b p,ρ b=some p→(λb=>if b=k+1 then some (⟨g',0,1,cur.size⟩:Pl)else ρ b) b=some p:=by intro b p hb;show(if b=k+1 then _ else ρ b)=some p;rw[if_neg (λe=>by rw[e,hρ1]at hb;cases hb)];exact hb
 have hbm:=d3d (u:=.slice (some ⟨g',0,none⟩) xs.length c') hw2;have hbg:(w2.setCell ⟨m.blk,1,none⟩ (.slice (some ⟨g',0,none⟩) xs.length c')).heap[g']?=some (.cells cur 5 (0,0)):=by rw[Below.heap_setCell _ _ _ _ hg'I.2.2];exact hcur
 refine⟨λb=>if b=k+1 then some ⟨g',0,1,cur.size⟩else ρ b,⟨λ_ h=>h,λb hb=>if_neg (by omega),⟨?_,?_,?_,by rw[hsz];omega,λc hc=>hoth c (hc.elim (rel.imm c) (rel.kept c)) (λe=>by subst e;exact hc.elim hI0 hK0) (λe=>hc.elim (hgI c e.symm).1 (hgI c e.symm).2.1)⟩,?_,?_,?_⟩⟩
 ·exact ho2.os.trans ho1.os
 ·exact ho2.tape.trans ho1.tape
 ·exact ho2.output.trans ho1.output
 ·refine c4b (o0:=.trow 82 true 2 [[.ptr 0 0 0,.slice (k+1) 0 rows.length none]]) (o1:=some (.trow 5 false 1 rows)) (ρ':=λb=>if b=k+1 then some (⟨g',0,1,cur.size⟩:Pl)else ρ b) (k:=k) rel hIw (by rw[hsz];omega) (λb p hp=>?_) m (hmono 0 m hm) ⟨hI0,hK0,c65 hbm ?_ ?_ h0 hk hroom⟩ (λo ho=>?_)
  ·rw[hsz];have hp:(if b=k+1 then some (⟨g',0,1,cur.size⟩:Pl)else ρ b)=some p:=hp;split at hp
   ·cases hp;exact b0v hcur
   ·have:=rel.dom b p hp;omega
  ·simp only[VRel];exact⟨m,hmono 0 m hm,by simp[h0]⟩
  ·simp only[VRel];refine⟨⟨g',0,none⟩,c',by rw[hxl],by omega,(λn hn=>by cases hn),.inr ⟨⟨g',0,1,cur.size⟩,by simp,by simp,by simp;omega⟩⟩
  ·cases ho;refine⟨⟨g',0,1,cur.size⟩,if_pos rfl,hg'I.1,hg'I.2.1,hg'I.2.2,rfl,rfl,by decide,⟨cur,hbg,rfl,by simp;omega,λh=>by cases h⟩,?_⟩;rw[VRows.iff];refine⟨hrk,VAt.of_cells (cs:=xs) (CellsAt.of_heap hbg (λj x hj=>?_)) (VRels.mono (λ_ h=>h) hIw _ hmono hxs)⟩;rw[Nat.zero_add];exact hcx j x hj
 ·intro b hb;simp only[List.length_cons,List.length_append,List.length_replicate,List.length_nil]at hb;show(if b=k+1 then _ else ρ b)=none;rw[if_neg (by omega)];exact hn b (by omega)
 ·simp
theorem c0h{I:Nat→Prop}{w:World}{ρ:PMap}(n:Nat):VRel I w ρ (.tuple [.int .i64 n,.nilifc]) (.tuple #[.int .i64 n,.nilIface]):=by simp only[VRel];exact⟨_,rfl,by simp[VRels,VRel]⟩
theorem d4h:a4j L.env 36 (primH L.env 36):=by
 have e:primH L.env 36=wsP:=rfl;rw[e];intro args H v H' hr I K ρ w cargs rel hn ha;rw[a3m (by decide)];obtain⟨d5,hd5⟩:=e3s;unfold wsP at hr;split at hr
 ·rename_i b s t k p;rw[cond_eq_ite]at hr;split at hr
  case isFalse=>cases hr
  rename_i hc;simp only[Bool.and_eq_true,Nat.beq_eq,Nat.ble_eq,b44]at hc;obtain⟨⟨⟨⟨⟨rfl,rfl⟩,hs⟩,hs2⟩,hp⟩,hbig⟩:=hc;obtain rfl:=a87 hs hs2;obtain⟨m,hm,hI0,hK0,ho⟩:=rel.live 0 (.trow 82 true 2 [[p,.nilslice]]) rfl;obtain⟨cp,cv,hb,h1,h2,h0,hk,hroom⟩:=b5w ho;have hpp:=c9a hm h0 hp h1;simp only[VRels]at ha;obtain⟨_,_,rfl,hp0,c2,_,rfl,hc2,rfl⟩:=ha;have hc2:=c8z hc2;subst hc2;simp only[VRel]at hp0 h2;obtain⟨m',hm',rfl⟩:=hp0;obtain rfl:m=m':=z9o (hm.symm.trans hm');subst h2;have hself:(Value.pointer (some ⟨m.blk,m.off+0*m.k+0,none⟩))=a35 m.blk:=by simp[h0]
  rw[hself];cases s with
  |nil=>
   cases hr;refine Calls.mono (Tryz.bWrite m.blk cp (.slice none 0 0) ⟨#[]⟩ w hb hpp none (Q:=λw1 v' w2=>v' = .slice none 0 0∧w2=w1) (λw1 hw1=>?_)) ?_
   ·exact⟨.slice none 0 0,w1,Go.Ax.run_append_fits (ok) c76 hd5 d7v rfl 80 (m:=0) (new:=#[]) rfl (by decide) (by simp[Builtin.firstCells]) (λa ha=>by cases ha) (λ_=>rfl),⟨_,_,_,rfl⟩,OnlyB.refl _ _ _,rfl,rfl,rfl⟩
   ·rintro en w' ⟨rfl,w1,v',w2,rfl,hw2,ho1,ho2,rfl,rfl⟩
    have hdm:=rel.dom 0 m hm;have hoth:∀q,q<w.heap.size→q≠m.blk→(w2.setCell ⟨m.blk,1,none⟩ (.slice none 0 0)).heap[q]?=w.heap[q]?:=λq hq h1=>by rw[Below.heap_setCell _ _ _ _ h1,ho1.other q hq h1 (by simp)]
    have hsz:w.heap.size≤(w2.setCell ⟨m.blk,1,none⟩ (.slice none 0 0)).heap.size:=by simp;exact ho1.size
    refine⟨_,I,ρ,rfl,⟨λ_ h=>h,λ_ _=>rfl,⟨ho1.os,ho1.tape,ho1.output,hsz,λc hc=>hoth c (hc.elim (rel.imm c) (rel.kept c)) (λe=>by subst e;exact hc.elim hI0 hK0)⟩,c0u rel hm hsz hoth λhIw=>?_,hn,Nat.le_refl _⟩,?_⟩
    ·refine c65 (d3d hw2) ?_ ?_ h0 hk hroom
     ·simp only[VRel];exact⟨m,hm,by simp[h0]⟩
     ·simp[VRel]
    ·exact c0h 0
  |cons x s=>
   cases hr;refine Calls.mono (Tryz.bWrite m.blk cp (.slice none 0 0) ⟨(x::s).toArray⟩ w hb hpp none (Q:=λw1 v' w2=>Buffed w1 w2 none 5 v' (Lib.strCells ⟨(x::s).toArray⟩)) (λw1 hw1=>?_)) ?_
   ·obtain⟨v',w2,hrun,hbuf⟩:=c1r (w:=w1) (ok) c76 d7v rfl d4f e1m (base:=none) (n:=0) (c:=0) (xs:=[]) (s:=⟨(x::s).toArray⟩) 80 rfl (λw' _=>by simp[Builtin.firstCells]) (by rw[bsz];simp) (by rw[bsz];exact d59 (by simp at hbig⊢;omega)) none;obtain⟨g',c',hv',_⟩:=hbuf.buf;have hlt:=b0v hb;have hs1:=hw1.size;exact⟨v',w2,hrun,⟨_,_,_,hv'⟩,OnlyB.buffed hbuf,hbuf.other m.blk (by omega) (by simp),by simpa using hbuf⟩
   ·rintro en w' ⟨rfl,w1,v',w2,rfl,hw2,ho1,ho2,hbuf⟩
    obtain⟨ρ',hret⟩:=c3e (rows:=a1f (x::s)) (k:=0) rel rfl hn hm hI0 hK0 h0 hk hroom (λb hb=>by cases hb) hw2 ho1 ho2 hbuf (b7m _) (λr hr=>by simp only[a1f,List.mem_map]at hr;obtain⟨_,_,rfl⟩:=hr;rfl) (by omega);have hbl:(a1f (x::s)).length=(x::s).length:=by simp[a1f]
    rw[hbl]at hret;exact⟨_,I,ρ',rfl,hret,by rw[bsz];exact c0h _⟩
 ·rename_i b s t k p c n u k1 rows;rw[cond_eq_ite]at hr;split at hr
  case isFalse=>cases hr
  rename_i hc;simp only[Bool.and_eq_true,Nat.beq_eq,Nat.ble_eq,b44]at hc;obtain⟨⟨⟨⟨⟨⟨⟨⟨⟨rfl,rfl⟩,hs⟩,hs2⟩,hp⟩,rfl⟩,rfl⟩,rfl⟩,rfl⟩,hbig⟩:=hc;obtain rfl:=a87 hs hs2;obtain⟨m,hm,hI0,hK0,ho⟩:=rel.live 0 (.trow 82 true 2 [[p,.slice 1 0 rows.length none]]) rfl;obtain⟨cp,cv,hb,h1,h2,h0,hk,hroom⟩:=b5w ho;have hpp:=c9a hm h0 hp h1;obtain⟨m1,hm1,hI1,hK1,g0,gk,_,⟨arr,hg,hgs,hgl,_⟩,hgr⟩:=rel.live 1 (.trow 5 false 1 rows) rfl;have hne:m1.blk≠m.blk:=λe=>by have:=rel.inj 1 0 m1 m rfl rfl hm1 hm e;omega
  simp only[VRels]at ha;obtain⟨_,_,rfl,hp0,c2,_,rfl,hc2,rfl⟩:=ha;have hc2:=c8z hc2;subst hc2;simp only[VRel]at hp0 h2;obtain⟨m',hm',rfl⟩:=hp0;obtain rfl:m=m':=z9o (hm.symm.trans hm');obtain⟨a,cc,rfl,hle,_,hor⟩:=h2;have hself:(Value.pointer (some ⟨m.blk,m.off+0*m.k+0,none⟩))=a35 m.blk:=by simp[h0]
  rw[hself];rw[cond_eq_ite]at hr;split at hr
  ·rename_i hse;have hs0:s=[]:=by simpa using hse
   subst hs0;cases hr;refine Calls.mono (Tryz.bWrite m.blk cp (.slice (some a) rows.length cc) ⟨#[]⟩ w hb hpp none (Q:=λw1 v' w2=>v' = .slice (some a) rows.length cc∧w2=w1) (λw1 hw1=>?_)) ?_
   ·exact⟨.slice (some a) rows.length cc,w1,Go.Ax.run_append_fits (ok) c76 hd5 d7v rfl 80 (m:=0) (new:=#[]) rfl hle (by simp[Builtin.firstCells]) (λa' ha'=>by simp[storeCells]) (λh=>by cases h),⟨_,_,_,rfl⟩,OnlyB.refl _ _ _,rfl,rfl,rfl⟩
   ·rintro en w' ⟨rfl,w1,v',w2,rfl,hw2,ho1,ho2,rfl,rfl⟩
    have hoth:∀q,q<w.heap.size→q≠m.blk→(w2.setCell ⟨m.blk,1,none⟩ (.slice (some a) rows.length cc)).heap[q]?=w.heap[q]?:=λq hq h1=>by rw[Below.heap_setCell _ _ _ _ h1,ho1.other q hq h1 (by simp)]
    have hsz:w.heap.size≤(w2.setCell ⟨m.blk,1,none⟩ (.slice (some a) rows.length cc)).heap.size:=by simp;exact ho1.size
    refine⟨_,I,ρ,rfl,⟨λ_ h=>h,λ_ _=>rfl,⟨ho1.os,ho1.tape,ho1.output,hsz,λc hc=>hoth c (hc.elim (rel.imm c) (rel.kept c)) (λe=>by subst e;exact hc.elim hI0 hK0)⟩,c4c rel hm hsz hoth λhIw=>?_,hn,Nat.le_refl _⟩,?_⟩
    ·refine c65 (d3d hw2) ?_ ?_ h0 hk hroom
     ·simp only[VRel];exact⟨m,hm,by simp[h0]⟩
     ·simp only[VRel];exact⟨a,cc,rfl,hle,(λn hn=>by cases hn),hor⟩
    ·exact c0h 0
  rename_i hse;cases hr;have hne0:s≠[]:=by intro e;subst e;exact hse rfl
  obtain⟨xs,hx1,hx2,hx3⟩:=b8v hgr;have hor':cc=0∨a=⟨m1.blk,0,none⟩∧cc≤arr.size:=by
   rcases hor with h|⟨m1',hm1',rfl,hcr⟩
   ·exact .inl h
   ·obtain rfl:m1=m1':=z9o (hm1.symm.trans hm1');exact .inr ⟨by rw[g0];simp,by rw[g0,gk]at hcr;omega⟩
  have hsne:s.length≠0:=by cases s with|nil=>exact absurd rfl hne0|cons _ _=>simp
  refine Calls.mono (Tryz.bWrite m.blk cp (.slice (some a) rows.length cc) ⟨s.toArray⟩ w hb hpp (some m1.blk) (Q:=λw1 v' w2=>Buffed w1 w2 (some m1.blk) 5 v' (xs++Lib.strCells ⟨s.toArray⟩)) (λw1 hw1=>?_)) ?_
  ·have hbuf1:c6u w1 m1.blk 5 (if cc=0 then 0 else cc) xs:=by
    refine⟨arr,by rw[hw1.other m1.blk (b0v hg) hne (by simp)];exact hg,?_,λj x hj=>?_⟩
    ·split
     ·omega
     ·rcases hor' with h|⟨_,h⟩
      ·contradiction
      ·exact h
    ·have:=hx2 j x hj;rw[a1l hg]at this;exact this
   have hcc:(if cc=0 then 0 else cc)=cc:=by split<;>simp_all
   rw[hcc]at hbuf1;obtain⟨v',w2,hrun,hbuf⟩:=c2w (w:=w1) (ok) c76 hd5 d7v rfl d4f e1m (a:=a) (g:=m1.blk) (c:=cc) (xs:=xs) (s:=⟨s.toArray⟩) 80 (by rw[bsz];exact hsne) (hor'.imp id (λh=>h.1)) (by omega) hbuf1 (by rw[bsz,hx1];exact d59 hbig);rw[hx1]at hrun;obtain⟨g',c',hv',_⟩:=hbuf.buf;have hlt:=b0v hb;have hs1:=hw1.size;exact⟨v',w2,hrun,⟨_,_,_,hv'⟩,OnlyB.buffed hbuf,hbuf.other m.blk (by omega) (by simp;exact Ne.symm hne),hbuf⟩
  ·rintro en w' ⟨rfl,w1,v',w2,rfl,hw2,ho1,ho2,hbuf⟩
   have hrk:∀r∈rows++a1f s,r.length=1:=by
    intro r hr;rcases List.mem_append.1 hr with h|h
    ·rw[VRows.iff]at hgr;exact hgr.1 r h
    ·simp only[a1f,List.mem_map]at h;obtain⟨_,_,rfl⟩:=h;rfl
   obtain⟨ρ',hret⟩:=c3e (rows:=rows++a1f s) (k:=1) rel rfl hn hm hI0 hK0 h0 hk hroom (λb hb=>by cases hb;exact⟨hI1,hK1,hne⟩) hw2 ho1 ho2 hbuf (by rw[List.flatten_append];exact VRels.append hx3 (b7m _)) hrk (by omega);have hbl:(rows++a1f s).length=rows.length+s.length:=by simp[a1f]
   rw[hbl]at hret;exact⟨_,I,ρ',rfl,hret,by rw[bsz];exact c0h _⟩
 ·cases hr
theorem d6d:a4j L.env 53 (primH L.env 53):=by
 have e:primH L.env 53=c5e:=rfl;rw[e];intro args H v H' hr I K ρ w cargs rel hn ha;rw[a3m (by decide)];unfold c5e at hr;split at hr
 case h_2=>cases hr
 rename_i b n t k;rw[cond_eq_ite]at hr;split at hr
 case isFalse=>cases hr
 rename_i hc;simp only[Bool.and_eq_true,Nat.beq_eq,decide_eq_true_eq]at hc;obtain⟨⟨⟨⟨⟨rfl,rfl⟩,hs⟩,hs2⟩,hn0⟩,hbig⟩:=hc;obtain rfl:=a87 hs hs2;cases hr;obtain⟨m,hm,hI0,hK0,ho⟩:=rel.live 0 (.trow 82 true 2 [[.nilptr,.nilslice]]) rfl;obtain⟨cp,cv,hb,h1,h2,h0,hk,hroom⟩:=b5w ho;simp only[VRels]at ha;obtain⟨_,_,rfl,hp0,c2,_,rfl,hc2,rfl⟩:=ha;simp only[VRel]at hp0 h1 h2 hc2;obtain⟨m',hm',rfl⟩:=hp0;obtain rfl:m=m':=z9o (hm.symm.trans hm');subst h1;subst h2;subst hc2;have hself:(Value.pointer (some ⟨m.blk,m.off+0*m.k+0,none⟩))=a35 m.blk:=by simp[h0]
 rw[hself];obtain⟨nn,rfl⟩:∃nn:Nat,n=nn:=⟨n.toNat,by omega⟩
 refine Calls.mono (Tryz.bGrow m.blk nn w hb (by omega)) ?_
 rintro en w' ⟨rfl,h|⟨_,ho1,cs,hw2,hcs⟩⟩
 ·omega
 have hv1:VRel I w' ρ (.tuple []) (.tuple #[]):=by simp only[VRel];exact⟨_,rfl,by simp[VRels]⟩
 let v':Value:=.slice (some ⟨(w.setCell ⟨m.blk,0,none⟩ (a35 m.blk)).drew.heap.size,0,none⟩) 0 cs.size
 let w1:World:=(w.setCell ⟨m.blk,0,none⟩ (a35 m.blk)).setCell ⟨m.blk,1,none⟩ v'
 have hsz0:(w.setCell ⟨m.blk,0,none⟩ (a35 m.blk)).drew.heap.size=w.heap.size:=by show(w.setCell ⟨m.blk,0,none⟩ (a35 m.blk)).heap.size=_;simp
 have hsz1:w1.heap.size=w.heap.size:=by show(World.setCell _ _ _).heap.size=_;simp
 have hb1:w1.heap[m.blk]?=some (.cells #[a35 m.blk,v'] 82 (0,0)):=d3d (e0g hb);have hk1:∀k,k≠m.blk→w1.heap[k]?=w.heap[k]?:=λk hk=>by show(World.setCell _ _ _).heap[k]?=_;rw[Below.heap_setCell _ _ _ _ hk,Below.heap_setCell _ _ _ _ hk]
 have hk0:∀k,k≠m.blk→(w.setCell ⟨m.blk,0,none⟩ (a35 m.blk)).drew.heap[k]?=w.heap[k]?:=λk hk=>by show(World.setCell _ _ _).heap[k]?=_;rw[Below.heap_setCell _ _ _ _ hk]
 have o1:OnlyB w w1 m.blk none:=(OnlyB.setB w m.blk 0 none (a35 m.blk)).trans (OnlyB.setB _ m.blk 1 none v');have hs':=ho1.size;have o2:OnlyB w1 w' m.blk none:=⟨ho1.os,ho1.tape,ho1.output,by omega,λk hk h1 h2=>by rw[ho1.other k (by omega) h1 h2,hk0 k h1,hk1 k h1]⟩
 have hbf:Buffed w1 w' none 5 v' []:=by
  refine⟨ho1.os,ho1.tape,ho1.output,by omega,λk hk _=>?_,w.heap.size,cs.size,?_,by simp,.inr (by omega),cs,by rw[←hsz0];exact hcs,Nat.le_refl _,λj x hj=>by simp at hj⟩
  ·by_cases hkb:k=m.blk
   ·rw[hkb,hb1];exact hw2
   ·rw[ho1.other k (by omega) hkb (by simp),hk0 k hkb,hk1 k hkb]
  ·show v'=_;simp only[v',hsz0,List.length_nil]
 obtain⟨ρ',hret⟩:=c3e (rows:=[]) (k:=0) rel rfl hn hm hI0 hK0 h0 hk hroom (λb hb=>by cases hb) (w2:=w') (cv:=v') hw2 o1 o2 hbf (by simp[VRels]) (λr hr=>by cases hr) (by omega);have hsame:w'.setCell ⟨m.blk,1,none⟩ v'=w':=by
  have hx:(w'.setCell ⟨m.blk,1,none⟩ v').heap=w'.heap:=by
   apply Array.ext_getElem?;intro i;by_cases hi:i=m.blk
   ·rw[hi,d3d (u:=v') hw2];exact hw2.symm
   ·exact Below.heap_setCell _ _ _ _ hi
  cases w';simp only[World.setCell]at hx⊢;rw[hx]
 rw[hsame]at hret;exact⟨_,I,ρ',rfl,hret,by simp only[VRel];exact⟨_,rfl,by simp[VRels]⟩⟩
theorem d13(hread:a4j L.env 19 (primH L.env 19)):d03 L:=by
 intro f args H v H1 hp;by_cases h19:f=19
 ·subst h19;exact hread
 by_cases h37:f=37
 ·subst h37;exact d67
 by_cases h73:f=73
 ·subst h73;exact d78
 by_cases h30:f=30
 ·subst h30;exact d4n
 by_cases h36:f=36
 ·subst h36;exact d4h
 by_cases h38:f=38
 ·subst h38;exact d5x
 by_cases h39:f=39
 ·subst h39;exact d4u
 by_cases h24:f=24
 ·subst h24;exact d1h
 by_cases h70:f=70
 ·subst h70;exact d0f
 by_cases h53:f=53
 ·subst h53;exact d6d
 exfalso;have:primH L.env f args H=none:=by refine b57 ?_;show c4l PR.pr f args=none;simp only[c4l,c3a];rw[beq_eq_false_iff_ne.2 h19,beq_eq_false_iff_ne.2 h37,beq_eq_false_iff_ne.2 h73,beq_eq_false_iff_ne.2 h30,beq_eq_false_iff_ne.2 h36,beq_eq_false_iff_ne.2 h38,beq_eq_false_iff_ne.2 h39,beq_eq_false_iff_ne.2 h24,beq_eq_false_iff_ne.2 h70,beq_eq_false_iff_ne.2 h53];rfl
 rw[this]at hp;cases hp
theorem dr(hread:a4j L.env 19 (primH L.env 19)):DrOk L.env:=laidOk.drawnP (d13 hread)
end Go.RInst
/- No fact is given. -/
namespace Go.RInst
open Go.Proofs Go.Ax
set_option maxRecDepth 100000
def Mf:List Fact:=[]
theorem no(g:Nat)(h:(Mf.all λy=>!Nat.beq y.g g)=true):∀y∈Mf,y.g≠g:=by intro y hy;cases hy
end Go.RInst
