/- The closed run of the chapter's examples, by the kernel (printed by mkbase0.py). -/
import Derived.Test.YtmiegcjnimlbmaaGreatDoorUGa
import Derived.Test.YtmiegcjnimlbmaaGreatDoorAxD
set_option linter.unusedSimpArgs false
set_option linter.unusedVariables false
namespace Go.UInst
open Go.Proofs Go.Ax
attribute [local instance] zc2
set_option maxRecDepth 1000000
def w0_:List AV:=[.islice [[.int .u8 0,.nilslice,.int .i64 0,.int .i64 0],[.int .u8 14,.islice [[.int .i64 0]] (some 1),.int .i64 0,.int .i64 0]] (some 2),.islice [[.str [97]],[.str [102]]] (some 2),.nilslice,.islice [[.int .i64 1]] (some 1)]
def x0:Fact:=⟨171,[.agg w0_,.agg [.int .u8 0,.nilslice,.int .i64 0,.int .i64 0]],.int .i64 0⟩
def x1:Fact:=⟨171,[.agg w0_,.agg [.int .u8 14,.islice [[.int .i64 0]] (some 1),.int .i64 0,.int .i64 0]],.int .i64 0⟩
def x2:Fact:=⟨208,[.str [97]],.bool true⟩
def x3:Fact:=⟨208,[.str [102]],.bool true⟩
def x4:Fact:=⟨134,[.agg w0_],.int .i64 0⟩
def x5:Fact:=⟨135,[.agg w0_],.islice [[.islice [[.int .i64 1,.int .i64 0]] (some 1)],[.nilslice]] (some 2)⟩
def x6:Fact:=⟨84,[.agg w0_],.tuple [.islice [[.int .i64 0],[.int .i64 0]] (some 2),.int .i64 0]⟩
def x7:Fact:=⟨13,[.agg w0_],.islice [[.int .i64 0]] (some 1)⟩
def x8:Fact:=⟨14,[.str [111,48]],.bool true⟩
def x9:Fact:=⟨11,[.agg w0_],.tuple [.islice [[.str [97],.int .u8 0],[.str [111,48],.int .u8 1]] (some 2),.int .i64 0]⟩
def x10:Fact:=⟨44,[.agg w0_,.islice [[.islice [[.int .u8 1]] (some 1)],[.islice [[.int .u8 0]] (some 1)],[.islice [[.int .u8 1]] (some 1)]] (some 3),.islice [[.islice [[.int .u8 0]] (some 1)],[.islice [[.int .u8 0]] (some 1)],[.islice [[.int .u8 0]] (some 1)]] (some 3)],.int .i64 0⟩
def x11:Fact:=⟨101,[.int .u64 1,.int .u64 1],.tuple [.int .u64 0,.int .u64 1]⟩
def x12:Fact:=⟨57,[.agg w0_],.islice [[.int .i64 1]] (some 1)⟩
def x13:Fact:=⟨22,[.agg w0_],.agg [.islice [[.int .u8 2]] (some 1),.islice [[.int .u8 2]] (some 1)]⟩
def x14:Fact:=⟨58,[.agg w0_],.tuple [.islice [[.int .i64 0],[.int .i64 1]] (some 2),.int .i64 0]⟩
def x15:Fact:=⟨44,[.agg w0_,.islice [[.islice [[.int .u8 1]] (some 1)],[.islice [[.int .u8 0]] (some 1)],[.islice [[.int .u8 1]] (some 1)]] (some 3),.islice [[.islice [[.int .u8 2]] (some 1)],[.islice [[.int .u8 1]] (some 1)],[.islice [[.int .u8 0]] (some 1)]] (some 3)],.int .i64 0⟩
def x16:Fact:=⟨21,[.agg w0_,.agg (fb 0 1 ((-1)) 0 0)],.int .i64 0⟩
def x17:Fact:=⟨47,[.agg [.str [97],.int .u8 0]],.bool true⟩
def x18:Fact:=⟨48,[.agg [.str [116],.int .i64 100,.int .i64 0,.int .i64 30,.int .i64 60,.int .i64 90]],.bool true⟩
def w1_:List AV:=[.islice [[.str [97],.int .u8 0],[.str [111,48],.int .u8 1]] (some 2),.islice [[.str [116],.int .i64 100,.int .i64 0,.int .i64 30,.int .i64 60,.int .i64 90]] (some 1),.islice [[.int .i64 0,.str [49,88],.int .i64 1],[.int .i64 0,.str [48,72],.int .i64 1],[.int .i64 0,.str [49,76],.int .i64 1]] (some 3)]
def x19:Fact:=⟨49,[.agg [.int .i64 0,.str [49,88],.int .i64 1],.agg w1_],.bool true⟩
def x20:Fact:=⟨49,[.agg [.int .i64 0,.str [48,72],.int .i64 1],.agg w1_],.bool true⟩
def x21:Fact:=⟨49,[.agg [.int .i64 0,.str [49,76],.int .i64 1],.agg w1_],.bool true⟩
def x22:Fact:=⟨50,[.islice [[.str [97]],[.str [111,48]]] none],.bool false⟩
def x23:Fact:=⟨50,[.islice [[.str [116]]] none],.bool false⟩
def x24:Fact:=⟨18,[.agg w1_],.int .i64 0⟩
def x25:Fact:=⟨67,[.agg w1_,.int .i64 3],.tuple [.islice [[.int .i64 0,.str [49,88],.int .i64 1],[.int .i64 0,.str [48,72],.int .i64 1],[.int .i64 0,.str [49,76],.int .i64 1]] (some 3),.int .i64 0]⟩
def x26:Fact:=⟨12,[],.bool true⟩
def M0:List Fact:=[]
theorem h0:∀x∈M0,a0o L.env x:=a0q
theorem k0:a0o L.env x0:=a0h h0 60 (by kernel_rfl)
def M1:List Fact:=x0::M0
theorem h1:∀x∈M1,a0o L.env x:=a0e k0 h0
theorem k1:a0o L.env x1:=a0h h1 60 (by kernel_rfl)
def M2:List Fact:=x1::M1
theorem h2:∀x∈M2,a0o L.env x:=a0e k1 h1
theorem k2:a0o L.env x2:=a0h h2 60 (by kernel_rfl)
def M3:List Fact:=x2::M2
theorem h3:∀x∈M3,a0o L.env x:=a0e k2 h2
theorem k3:a0o L.env x3:=a0h h3 60 (by kernel_rfl)
def M4:List Fact:=x3::M3
theorem h4:∀x∈M4,a0o L.env x:=a0e k3 h3
theorem k4:a0o L.env x4:=a0h h4 60 (by kernel_rfl)
def M5:List Fact:=x4::M4
theorem h5:∀x∈M5,a0o L.env x:=a0e k4 h4
theorem k5:a0o L.env x5:=a0h h5 60 (by kernel_rfl)
def M6:List Fact:=x5::M5
theorem h6:∀x∈M6,a0o L.env x:=a0e k5 h5
theorem k6:a0o L.env x6:=a0h h6 60 (by kernel_rfl)
def M7:List Fact:=x6::M6
theorem h7:∀x∈M7,a0o L.env x:=a0e k6 h6
theorem k7:a0o L.env x7:=a0h h7 60 (by kernel_rfl)
def M8:List Fact:=x7::M7
theorem h8:∀x∈M8,a0o L.env x:=a0e k7 h7
theorem k8:a0o L.env x8:=a0h h8 60 (by kernel_rfl)
def M9:List Fact:=x8::M8
theorem h9:∀x∈M9,a0o L.env x:=a0e k8 h8
theorem k9:a0o L.env x9:=a0h h9 60 (by kernel_rfl)
def M10:List Fact:=x9::M9
theorem h10:∀x∈M10,a0o L.env x:=a0e k9 h9
theorem k10:a0o L.env x10:=a0h h10 60 (by kernel_rfl)
def M11:List Fact:=x10::M10
theorem h11:∀x∈M11,a0o L.env x:=a0e k10 h10
theorem k11:a0o L.env x11:=a0h h11 60 (by kernel_rfl)
def M12:List Fact:=x11::M11
theorem h12:∀x∈M12,a0o L.env x:=a0e k11 h11
theorem k12:a0o L.env x12:=a0h h12 60 (by kernel_rfl)
def M13:List Fact:=x12::M12
theorem h13:∀x∈M13,a0o L.env x:=a0e k12 h12
theorem k13:a0o L.env x13:=a0h h13 60 (by kernel_rfl)
def M14:List Fact:=x13::M13
theorem h14:∀x∈M14,a0o L.env x:=a0e k13 h13
theorem k14:a0o L.env x14:=a0h h14 60 (by kernel_rfl)
def M15:List Fact:=x14::M14
theorem h15:∀x∈M15,a0o L.env x:=a0e k14 h14
theorem k15:a0o L.env x15:=a0h h15 60 (by kernel_rfl)
def M16:List Fact:=x15::M15
theorem h16:∀x∈M16,a0o L.env x:=a0e k15 h15
theorem k16:a0o L.env x16:=a0h h16 60 (by kernel_rfl)
def M17:List Fact:=x16::M16
theorem h17:∀x∈M17,a0o L.env x:=a0e k16 h16
theorem k17:a0o L.env x17:=a0h h17 60 (by kernel_rfl)
def M18:List Fact:=x17::M17
theorem h18:∀x∈M18,a0o L.env x:=a0e k17 h17
theorem k18:a0o L.env x18:=a0h h18 60 (by kernel_rfl)
def M19:List Fact:=x18::M18
theorem h19:∀x∈M19,a0o L.env x:=a0e k18 h18
theorem k19:a0o L.env x19:=a0h h19 60 (by kernel_rfl)
def M20:List Fact:=x19::M19
theorem h20:∀x∈M20,a0o L.env x:=a0e k19 h19
theorem k20:a0o L.env x20:=a0h h20 60 (by kernel_rfl)
def M21:List Fact:=x20::M20
theorem h21:∀x∈M21,a0o L.env x:=a0e k20 h20
theorem k21:a0o L.env x21:=a0h h21 60 (by kernel_rfl)
def M22:List Fact:=x21::M21
theorem h22:∀x∈M22,a0o L.env x:=a0e k21 h21
theorem k22:a0o L.env x22:=a0h h22 60 (by kernel_rfl)
def M23:List Fact:=x22::M22
theorem h23:∀x∈M23,a0o L.env x:=a0e k22 h22
theorem k23:a0o L.env x23:=a0h h23 60 (by kernel_rfl)
def M24:List Fact:=x23::M23
theorem h24:∀x∈M24,a0o L.env x:=a0e k23 h23
theorem k24:a0o L.env x24:=a0h h24 60 (by kernel_rfl)
def M25:List Fact:=x24::M24
theorem h25:∀x∈M25,a0o L.env x:=a0e k24 h24
theorem k25:a0o L.env x25:=a0h h25 60 (by kernel_rfl)
def M26:List Fact:=x25::M25
theorem h26:∀x∈M26,a0o L.env x:=a0e k25 h25
theorem k26:a0o L.env x26:=a0h h26 60 (by kernel_rfl)
theorem lives_call{d:Bool}(H:a03):cl d 12 [] H=some (.bool true,H,[]):=cf rfl k26 rfl
end Go.UInst
/- The closed run of the chapter's examples, by the kernel (printed by mkbase0.py). -/
namespace Go.UInst
open Go.Proofs Go.Ax
attribute [local instance] zc5
set_option maxRecDepth 1000000
theorem hh0:∀x∈M0,a0o L.env x:=a0q
theorem kk0:a0o L.env x0:=a0h hh0 60 (by kernel_rfl)
theorem hh1:∀x∈M1,a0o L.env x:=a0e kk0 hh0
theorem kk1:a0o L.env x1:=a0h hh1 60 (by kernel_rfl)
theorem hh2:∀x∈M2,a0o L.env x:=a0e kk1 hh1
theorem kk2:a0o L.env x2:=a0h hh2 60 (by kernel_rfl)
theorem hh3:∀x∈M3,a0o L.env x:=a0e kk2 hh2
theorem kk3:a0o L.env x3:=a0h hh3 60 (by kernel_rfl)
theorem hh4:∀x∈M4,a0o L.env x:=a0e kk3 hh3
theorem kk4:a0o L.env x4:=a0h hh4 60 (by kernel_rfl)
theorem hh5:∀x∈M5,a0o L.env x:=a0e kk4 hh4
theorem kk5:a0o L.env x5:=a0h hh5 60 (by kernel_rfl)
theorem hh6:∀x∈M6,a0o L.env x:=a0e kk5 hh5
theorem kk6:a0o L.env x6:=a0h hh6 60 (by kernel_rfl)
theorem hh7:∀x∈M7,a0o L.env x:=a0e kk6 hh6
theorem kk7:a0o L.env x7:=a0h hh7 60 (by kernel_rfl)
theorem hh8:∀x∈M8,a0o L.env x:=a0e kk7 hh7
theorem kk8:a0o L.env x8:=a0h hh8 60 (by kernel_rfl)
theorem hh9:∀x∈M9,a0o L.env x:=a0e kk8 hh8
theorem kk9:a0o L.env x9:=a0h hh9 60 (by kernel_rfl)
theorem f6k:∀x∈M10,a0o L.env x:=a0e kk9 hh9
theorem g0g:a0o L.env x10:=a0h f6k 60 (by kernel_rfl)
theorem f6j:∀x∈M11,a0o L.env x:=a0e g0g f6k
theorem g0f:a0o L.env x11:=a0h f6j 60 (by kernel_rfl)
theorem f6i:∀x∈M12,a0o L.env x:=a0e g0f f6j
theorem g0e:a0o L.env x12:=a0h f6i 60 (by kernel_rfl)
theorem f6h:∀x∈M13,a0o L.env x:=a0e g0e f6i
theorem g0d:a0o L.env x13:=a0h f6h 60 (by kernel_rfl)
theorem f6g:∀x∈M14,a0o L.env x:=a0e g0d f6h
theorem g0c:a0o L.env x14:=a0h f6g 60 (by kernel_rfl)
theorem f6f:∀x∈M15,a0o L.env x:=a0e g0c f6g
theorem g0b:a0o L.env x15:=a0h f6f 60 (by kernel_rfl)
theorem f6e:∀x∈M16,a0o L.env x:=a0e g0b f6f
theorem g0a:a0o L.env x16:=a0h f6e 60 (by kernel_rfl)
theorem f6d:∀x∈M17,a0o L.env x:=a0e g0a f6e
theorem g09:a0o L.env x17:=a0h f6d 60 (by kernel_rfl)
theorem f6c:∀x∈M18,a0o L.env x:=a0e g09 f6d
theorem g08:a0o L.env x18:=a0h f6c 60 (by kernel_rfl)
theorem f6b:∀x∈M19,a0o L.env x:=a0e g08 f6c
theorem g07:a0o L.env x19:=a0h f6b 60 (by kernel_rfl)
theorem f6a:∀x∈M20,a0o L.env x:=a0e g07 f6b
theorem g06:a0o L.env x20:=a0h f6a 60 (by kernel_rfl)
theorem f5z:∀x∈M21,a0o L.env x:=a0e g06 f6a
theorem g05:a0o L.env x21:=a0h f5z 60 (by kernel_rfl)
theorem f5y:∀x∈M22,a0o L.env x:=a0e g05 f5z
theorem g04:a0o L.env x22:=a0h f5y 60 (by kernel_rfl)
theorem f5x:∀x∈M23,a0o L.env x:=a0e g04 f5y
theorem g03:a0o L.env x23:=a0h f5x 60 (by kernel_rfl)
theorem f5w:∀x∈M24,a0o L.env x:=a0e g03 f5x
theorem g02:a0o L.env x24:=a0h f5w 60 (by kernel_rfl)
theorem f5v:∀x∈M25,a0o L.env x:=a0e g02 f5w
theorem g01:a0o L.env x25:=a0h f5v 60 (by kernel_rfl)
theorem g10:∀x∈M26,a0o L.env x:=a0e g01 f5v
theorem g00:a0o L.env x26:=a0h g10 60 (by kernel_rfl)
theorem lives_call5{d:Bool}(H:a03):cl d 12 [] H=some (.bool true,H,[]):=cf rfl g00 rfl
end Go.UInst
