/- The closed run of the chapter's examples, by the kernel (printed by facts.py). -/
import Derived.Test.YtgmenpackpnmaaaGreatDoorMBase
import Derived.Test.YtgmenpackpnmaaaGreatDoorAxE
set_option linter.unusedSimpArgs false
set_option linter.unusedVariables false
namespace Go.MInst
open Go.Proofs Go.Ax
set_option maxRecDepth 1000000
def x0:Fact:=⟨160,[.agg [.islice [[.int .u8 0,.nilslice,.int .i64 0,.int .i64 0],[.int .u8 0,.nilslice,.int .i64 0,.int .i64 0],[.int .u8 5,.islice [[.int .i64 0],[.int .i64 1]] (some 2),.int .i64 0,.int .i64 0]] (some 3),.islice [[.str [97]],[.str [98]],[.str [121]]] (some 3),.nilslice,.islice [[.int .i64 2]] (some 1)],.agg [.int .u8 0,.nilslice,.int .i64 0,.int .i64 0]],.int .i64 0⟩
def x1:Fact:=⟨160,[.agg [.islice [[.int .u8 0,.nilslice,.int .i64 0,.int .i64 0],[.int .u8 0,.nilslice,.int .i64 0,.int .i64 0],[.int .u8 5,.islice [[.int .i64 0],[.int .i64 1]] (some 2),.int .i64 0,.int .i64 0]] (some 3),.islice [[.str [97]],[.str [98]],[.str [121]]] (some 3),.nilslice,.islice [[.int .i64 2]] (some 1)],.agg [.int .u8 5,.islice [[.int .i64 0],[.int .i64 1]] (some 2),.int .i64 0,.int .i64 0]],.int .i64 0⟩
def x2:Fact:=⟨171,[.str [97]],.bool true⟩
def x3:Fact:=⟨171,[.str [98]],.bool true⟩
def x4:Fact:=⟨171,[.str [121]],.bool true⟩
def x5:Fact:=⟨161,[.agg [.islice [[.int .u8 0,.nilslice,.int .i64 0,.int .i64 0],[.int .u8 0,.nilslice,.int .i64 0,.int .i64 0],[.int .u8 5,.islice [[.int .i64 0],[.int .i64 1]] (some 2),.int .i64 0,.int .i64 0]] (some 3),.islice [[.str [97]],[.str [98]],[.str [121]]] (some 3),.nilslice,.islice [[.int .i64 2]] (some 1)]],.int .i64 0⟩
def x6:Fact:=⟨140,[.agg [.islice [[.int .u8 0,.nilslice,.int .i64 0,.int .i64 0],[.int .u8 0,.nilslice,.int .i64 0,.int .i64 0],[.int .u8 5,.islice [[.int .i64 0],[.int .i64 1]] (some 2),.int .i64 0,.int .i64 0]] (some 3),.islice [[.str [97]],[.str [98]],[.str [121]]] (some 3),.nilslice,.islice [[.int .i64 2]] (some 1)]],.int .i64 0⟩
def x7:Fact:=⟨141,[.agg [.islice [[.int .u8 0,.nilslice,.int .i64 0,.int .i64 0],[.int .u8 0,.nilslice,.int .i64 0,.int .i64 0],[.int .u8 5,.islice [[.int .i64 0],[.int .i64 1]] (some 2),.int .i64 0,.int .i64 0]] (some 3),.islice [[.str [97]],[.str [98]],[.str [121]]] (some 3),.nilslice,.islice [[.int .i64 2]] (some 1)]],.islice [[.islice [[.int .i64 2,.int .i64 0]] (some 1)],[.islice [[.int .i64 2,.int .i64 1]] (some 1)],[.nilslice]] (some 3)⟩
def x8:Fact:=⟨103,[.agg [.islice [[.int .u8 0,.nilslice,.int .i64 0,.int .i64 0],[.int .u8 0,.nilslice,.int .i64 0,.int .i64 0],[.int .u8 5,.islice [[.int .i64 0],[.int .i64 1]] (some 2),.int .i64 0,.int .i64 0]] (some 3),.islice [[.str [97]],[.str [98]],[.str [121]]] (some 3),.nilslice,.islice [[.int .i64 2]] (some 1)]],.tuple [.islice [[.int .i64 0],[.int .i64 0],[.int .i64 1]] (some 3),.int .i64 0]⟩
def x9:Fact:=⟨79,[.agg [.islice [[.int .u8 0,.nilslice,.int .i64 0,.int .i64 0],[.int .u8 0,.nilslice,.int .i64 0,.int .i64 0],[.int .u8 5,.islice [[.int .i64 0],[.int .i64 1]] (some 2),.int .i64 0,.int .i64 0]] (some 3),.islice [[.str [97]],[.str [98]],[.str [121]]] (some 3),.nilslice,.islice [[.int .i64 2]] (some 1)]],.tuple [.islice [[.int .i64 0,.int .i64 (-1)],[.int .i64 1,.int .i64 (-1)],[.int .i64 2,.int .i64 (-1)],[.int .i64 2,.int .i64 0],[.int .i64 2,.int .i64 1]] (some 5),.int .i64 0]⟩
def x10:Fact:=⟨42,[.agg [.islice [[.int .u8 0,.nilslice,.int .i64 0,.int .i64 0],[.int .u8 0,.nilslice,.int .i64 0,.int .i64 0],[.int .u8 5,.islice [[.int .i64 0],[.int .i64 1]] (some 2),.int .i64 0,.int .i64 0]] (some 3),.islice [[.str [97]],[.str [98]],[.str [121]]] (some 3),.nilslice,.islice [[.int .i64 2]] (some 1)],.agg [.int .u8 0,.int .i64 0,.int .i64 (-1),.int .u8 0,.int .i64 0]],.int .i64 0⟩
def x11:Fact:=⟨42,[.agg [.islice [[.int .u8 0,.nilslice,.int .i64 0,.int .i64 0],[.int .u8 0,.nilslice,.int .i64 0,.int .i64 0],[.int .u8 5,.islice [[.int .i64 0],[.int .i64 1]] (some 2),.int .i64 0,.int .i64 0]] (some 3),.islice [[.str [97]],[.str [98]],[.str [121]]] (some 3),.nilslice,.islice [[.int .i64 2]] (some 1)],.agg [.int .u8 0,.int .i64 0,.int .i64 (-1),.int .u8 1,.int .i64 0]],.int .i64 0⟩
def x12:Fact:=⟨42,[.agg [.islice [[.int .u8 0,.nilslice,.int .i64 0,.int .i64 0],[.int .u8 0,.nilslice,.int .i64 0,.int .i64 0],[.int .u8 5,.islice [[.int .i64 0],[.int .i64 1]] (some 2),.int .i64 0,.int .i64 0]] (some 3),.islice [[.str [97]],[.str [98]],[.str [121]]] (some 3),.nilslice,.islice [[.int .i64 2]] (some 1)],.agg [.int .u8 0,.int .i64 2,.int .i64 (-1),.int .u8 1,.int .i64 0]],.int .i64 0⟩
def x13:Fact:=⟨50,[.agg [.islice [[.int .u8 0,.nilslice,.int .i64 0,.int .i64 0],[.int .u8 0,.nilslice,.int .i64 0,.int .i64 0],[.int .u8 5,.islice [[.int .i64 0],[.int .i64 1]] (some 2),.int .i64 0,.int .i64 0]] (some 3),.islice [[.str [97]],[.str [98]],[.str [121]]] (some 3),.nilslice,.islice [[.int .i64 2]] (some 1)],.islice [[.int .u8 0,.int .i64 0,.int .i64 (-1),.int .u8 0,.int .i64 0],[.int .u8 0,.int .i64 0,.int .i64 (-1),.int .u8 1,.int .i64 0],[.int .u8 0,.int .i64 2,.int .i64 (-1),.int .u8 1,.int .i64 0]] (some 3),.nilslice],.int .i64 0⟩
def x14:Fact:=⟨61,[.agg [.islice [[.int .u8 0,.nilslice,.int .i64 0,.int .i64 0],[.int .u8 0,.nilslice,.int .i64 0,.int .i64 0],[.int .u8 5,.islice [[.int .i64 0],[.int .i64 1]] (some 2),.int .i64 0,.int .i64 0]] (some 3),.islice [[.str [97]],[.str [98]],[.str [121]]] (some 3),.nilslice,.islice [[.int .i64 2]] (some 1)]],.tuple [.islice [[.int .i64 0],[.int .i64 1],[.int .i64 2]] (some 3),.int .i64 0]⟩
def x15:Fact:=⟨74,[.agg [.islice [[.int .u8 0,.nilslice,.int .i64 0,.int .i64 0],[.int .u8 0,.nilslice,.int .i64 0,.int .i64 0],[.int .u8 5,.islice [[.int .i64 0],[.int .i64 1]] (some 2),.int .i64 0,.int .i64 0]] (some 3),.islice [[.str [97]],[.str [98]],[.str [121]]] (some 3),.nilslice,.islice [[.int .i64 2]] (some 1)]],.islice [[.int .i64 0],[.int .i64 1]] (some 2)⟩
def x16:Fact:=⟨73,[.agg [.islice [[.int .u8 0,.nilslice,.int .i64 0,.int .i64 0],[.int .u8 0,.nilslice,.int .i64 0,.int .i64 0],[.int .u8 5,.islice [[.int .i64 0],[.int .i64 1]] (some 2),.int .i64 0,.int .i64 0]] (some 3),.islice [[.str [97]],[.str [98]],[.str [121]]] (some 3),.nilslice,.islice [[.int .i64 2]] (some 1)]],.nilslice⟩
def x17:Fact:=⟨31,[.agg [.islice [[.int .u8 0,.nilslice,.int .i64 0,.int .i64 0],[.int .u8 0,.nilslice,.int .i64 0,.int .i64 0],[.int .u8 5,.islice [[.int .i64 0],[.int .i64 1]] (some 2),.int .i64 0,.int .i64 0]] (some 3),.islice [[.str [97]],[.str [98]],[.str [121]]] (some 3),.nilslice,.islice [[.int .i64 2]] (some 1)],.islice [[.int .u8 0,.int .i64 0,.int .i64 (-1),.int .u8 0,.int .i64 0],[.int .u8 0,.int .i64 0,.int .i64 (-1),.int .u8 1,.int .i64 0],[.int .u8 0,.int .i64 2,.int .i64 (-1),.int .u8 1,.int .i64 0]] (some 3),.nilslice],.tuple [.islice [[.islice [] (some 0)],[.islice [] (some 0)],[.islice [] (some 0)]] (some 3),.int .i64 0]⟩
def x18:Fact:=⟨62,[.agg [.islice [[.int .u8 0,.nilslice,.int .i64 0,.int .i64 0],[.int .u8 0,.nilslice,.int .i64 0,.int .i64 0],[.int .u8 5,.islice [[.int .i64 0],[.int .i64 1]] (some 2),.int .i64 0,.int .i64 0]] (some 3),.islice [[.str [97]],[.str [98]],[.str [121]]] (some 3),.nilslice,.islice [[.int .i64 2]] (some 1)],.agg [.islice [[.int .u8 1],[.int .u8 1]] (some 2),.nilslice]],.int .i64 0⟩
def x19:Fact:=⟨62,[.agg [.islice [[.int .u8 0,.nilslice,.int .i64 0,.int .i64 0],[.int .u8 0,.nilslice,.int .i64 0,.int .i64 0],[.int .u8 5,.islice [[.int .i64 0],[.int .i64 1]] (some 2),.int .i64 0,.int .i64 0]] (some 3),.islice [[.str [97]],[.str [98]],[.str [121]]] (some 3),.nilslice,.islice [[.int .i64 2]] (some 1)],.agg [.islice [[.int .u8 0],[.int .u8 1]] (some 2),.nilslice]],.int .i64 0⟩
def x20:Fact:=⟨62,[.agg [.islice [[.int .u8 0,.nilslice,.int .i64 0,.int .i64 0],[.int .u8 0,.nilslice,.int .i64 0,.int .i64 0],[.int .u8 5,.islice [[.int .i64 0],[.int .i64 1]] (some 2),.int .i64 0,.int .i64 0]] (some 3),.islice [[.str [97]],[.str [98]],[.str [121]]] (some 3),.nilslice,.islice [[.int .i64 2]] (some 1)],.agg [.islice [[.int .u8 0],[.int .u8 0]] (some 2),.nilslice]],.int .i64 0⟩
def x21:Fact:=⟨50,[.agg [.islice [[.int .u8 0,.nilslice,.int .i64 0,.int .i64 0],[.int .u8 0,.nilslice,.int .i64 0,.int .i64 0],[.int .u8 5,.islice [[.int .i64 0],[.int .i64 1]] (some 2),.int .i64 0,.int .i64 0]] (some 3),.islice [[.str [97]],[.str [98]],[.str [121]]] (some 3),.nilslice,.islice [[.int .i64 2]] (some 1)],.nilslice,.islice [[.islice [[.int .u8 1],[.int .u8 1]] (some 2),.nilslice],[.islice [[.int .u8 0],[.int .u8 1]] (some 2),.nilslice],[.islice [[.int .u8 0],[.int .u8 0]] (some 2),.nilslice]] (some 3)],.int .i64 0⟩
def x22:Fact:=⟨126,[.int .u8 5,.islice [[.int .u64 1,.int .u64 6],[.int .u64 3,.int .u64 4]] none],.agg [.int .u64 1,.int .u64 6]⟩
def x23:Fact:=⟨31,[.agg [.islice [[.int .u8 0,.nilslice,.int .i64 0,.int .i64 0],[.int .u8 0,.nilslice,.int .i64 0,.int .i64 0],[.int .u8 5,.islice [[.int .i64 0],[.int .i64 1]] (some 2),.int .i64 0,.int .i64 0]] (some 3),.islice [[.str [97]],[.str [98]],[.str [121]]] (some 3),.nilslice,.islice [[.int .i64 2]] (some 1)],.nilslice,.islice [[.islice [[.int .u8 1],[.int .u8 1]] (some 2),.nilslice],[.islice [[.int .u8 0],[.int .u8 1]] (some 2),.nilslice],[.islice [[.int .u8 0],[.int .u8 0]] (some 2),.nilslice]] (some 3)],.tuple [.islice [] (some 0),.int .i64 0]⟩
def x24:Fact:=⟨89,[.int .u64 1,.int .u64 3],.tuple [.int .u64 0,.int .u64 3]⟩
def x25:Fact:=⟨50,[.agg [.islice [[.int .u8 0,.nilslice,.int .i64 0,.int .i64 0],[.int .u8 0,.nilslice,.int .i64 0,.int .i64 0],[.int .u8 5,.islice [[.int .i64 0],[.int .i64 1]] (some 2),.int .i64 0,.int .i64 0]] (some 3),.islice [[.str [97]],[.str [98]],[.str [121]]] (some 3),.nilslice,.islice [[.int .i64 2]] (some 1)],.islice [[.int .u8 0,.int .i64 0,.int .i64 (-1),.int .u8 0,.int .i64 0],[.int .u8 0,.int .i64 0,.int .i64 (-1),.int .u8 1,.int .i64 0],[.int .u8 0,.int .i64 2,.int .i64 (-1),.int .u8 1,.int .i64 0]] (some 3),.islice [[.islice [[.int .u8 1],[.int .u8 1]] (some 2),.nilslice],[.islice [[.int .u8 0],[.int .u8 1]] (some 2),.nilslice],[.islice [[.int .u8 0],[.int .u8 0]] (some 2),.nilslice]] (some 3)],.int .i64 0⟩
def x26:Fact:=⟨126,[.int .u8 5,.islice [[.int .u64 0,.int .u64 18446744073709551615],[.int .u64 3,.int .u64 4]] none],.agg [.int .u64 0,.int .u64 18446744073709551615]⟩
def x27:Fact:=⟨126,[.int .u8 5,.islice [[.int .u64 18446744073709551615,.int .u64 0],[.int .u64 3,.int .u64 4]] none],.agg [.int .u64 3,.int .u64 4]⟩
def x28:Fact:=⟨31,[.agg [.islice [[.int .u8 0,.nilslice,.int .i64 0,.int .i64 0],[.int .u8 0,.nilslice,.int .i64 0,.int .i64 0],[.int .u8 5,.islice [[.int .i64 0],[.int .i64 1]] (some 2),.int .i64 0,.int .i64 0]] (some 3),.islice [[.str [97]],[.str [98]],[.str [121]]] (some 3),.nilslice,.islice [[.int .i64 2]] (some 1)],.islice [[.int .u8 0,.int .i64 0,.int .i64 (-1),.int .u8 0,.int .i64 0],[.int .u8 0,.int .i64 0,.int .i64 (-1),.int .u8 1,.int .i64 0],[.int .u8 0,.int .i64 2,.int .i64 (-1),.int .u8 1,.int .i64 0]] (some 3),.islice [[.islice [[.int .u8 1],[.int .u8 1]] (some 2),.nilslice],[.islice [[.int .u8 0],[.int .u8 1]] (some 2),.nilslice],[.islice [[.int .u8 0],[.int .u8 0]] (some 2),.nilslice]] (some 3)],.tuple [.islice [[.islice [[.int .u64 1]] (some 1)],[.islice [[.int .u64 2]] (some 1)],[.islice [[.int .u64 6]] (some 1)]] (some 3),.int .i64 0]⟩
def x29:Fact:=⟨21,[.agg [.islice [[.int .u8 0,.nilslice,.int .i64 0,.int .i64 0],[.int .u8 0,.nilslice,.int .i64 0,.int .i64 0],[.int .u8 5,.islice [[.int .i64 0],[.int .i64 1]] (some 2),.int .i64 0,.int .i64 0]] (some 3),.islice [[.str [97]],[.str [98]],[.str [121]]] (some 3),.nilslice,.islice [[.int .i64 2]] (some 1)],.islice [[.int .u8 0,.int .i64 0,.int .i64 (-1),.int .u8 0,.int .i64 0],[.int .u8 0,.int .i64 0,.int .i64 (-1),.int .u8 1,.int .i64 0],[.int .u8 0,.int .i64 2,.int .i64 (-1),.int .u8 1,.int .i64 0]] (some 3),.islice [[.islice [[.int .u8 1],[.int .u8 1]] (some 2),.nilslice],[.islice [[.int .u8 0],[.int .u8 1]] (some 2),.nilslice],[.islice [[.int .u8 0],[.int .u8 0]] (some 2),.nilslice]] (some 3),.int .i64 4],.agg [.islice [[.int .i64 0],[.int .i64 1],[.int .i64 1]] (some 3),.islice [[.int .i64 1],[.int .i64 1],[.int .i64 2]] (some 3),.int .i64 3]⟩
def x30:Fact:=⟨10,[.agg [.islice [[.int .i64 0],[.int .i64 1],[.int .i64 1]] (some 3),.islice [[.int .i64 1],[.int .i64 1],[.int .i64 2]] (some 3),.int .i64 3]],.islice [[.int .i64 0],[.int .i64 1]] (some 2)⟩
def x31:Fact:=⟨11,[.agg [.islice [[.int .i64 0],[.int .i64 1],[.int .i64 1]] (some 3),.islice [[.int .i64 1],[.int .i64 1],[.int .i64 2]] (some 3),.int .i64 3]],.islice [[.int .i64 1],[.int .i64 3],[.int .i64 3]] (some 3)⟩
def x32:Fact:=⟨13,[],.bool true⟩
def M0:List Fact:=[]
theorem h0:∀ x ∈ M0,a0i L.env x:=c80
theorem k0:a0i L.env x0:=a0w ok dr h0 60 (by kernel_rfl)
def M1:List Fact:=x0 :: M0
theorem h1:∀ x ∈ M1,a0i L.env x:=a0p k0 h0
theorem k1:a0i L.env x1:=a0w ok dr h1 60 (by kernel_rfl)
def M2:List Fact:=x1 :: M1
theorem h2:∀ x ∈ M2,a0i L.env x:=a0p k1 h1
theorem k2:a0i L.env x2:=a0w ok dr h2 60 (by kernel_rfl)
def M3:List Fact:=x2 :: M2
theorem h3:∀ x ∈ M3,a0i L.env x:=a0p k2 h2
theorem k3:a0i L.env x3:=a0w ok dr h3 60 (by kernel_rfl)
def M4:List Fact:=x3 :: M3
theorem h4:∀ x ∈ M4,a0i L.env x:=a0p k3 h3
theorem k4:a0i L.env x4:=a0w ok dr h4 60 (by kernel_rfl)
def M5:List Fact:=x4 :: M4
theorem h5:∀ x ∈ M5,a0i L.env x:=a0p k4 h4
theorem k5:a0i L.env x5:=a0w ok dr h5 60 (by kernel_rfl)
def M6:List Fact:=x5 :: M5
theorem h6:∀ x ∈ M6,a0i L.env x:=a0p k5 h5
theorem k6:a0i L.env x6:=a0w ok dr h6 60 (by kernel_rfl)
def M7:List Fact:=x6 :: M6
theorem h7:∀ x ∈ M7,a0i L.env x:=a0p k6 h6
theorem k7:a0i L.env x7:=a0w ok dr h7 60 (by kernel_rfl)
def M8:List Fact:=x7 :: M7
theorem h8:∀ x ∈ M8,a0i L.env x:=a0p k7 h7
theorem k8:a0i L.env x8:=a0w ok dr h8 60 (by kernel_rfl)
def M9:List Fact:=x8 :: M8
theorem h9:∀ x ∈ M9,a0i L.env x:=a0p k8 h8
theorem k9:a0i L.env x9:=a0w ok dr h9 60 (by kernel_rfl)
def M10:List Fact:=x9 :: M9
theorem h10:∀ x ∈ M10,a0i L.env x:=a0p k9 h9
theorem k10:a0i L.env x10:=a0w ok dr h10 60 (by kernel_rfl)
def M11:List Fact:=x10 :: M10
theorem h11:∀ x ∈ M11,a0i L.env x:=a0p k10 h10
theorem k11:a0i L.env x11:=a0w ok dr h11 60 (by kernel_rfl)
def M12:List Fact:=x11 :: M11
theorem h12:∀ x ∈ M12,a0i L.env x:=a0p k11 h11
theorem k12:a0i L.env x12:=a0w ok dr h12 60 (by kernel_rfl)
def M13:List Fact:=x12 :: M12
theorem h13:∀ x ∈ M13,a0i L.env x:=a0p k12 h12
theorem k13:a0i L.env x13:=a0w ok dr h13 60 (by kernel_rfl)
def M14:List Fact:=x13 :: M13
theorem h14:∀ x ∈ M14,a0i L.env x:=a0p k13 h13
theorem k14:a0i L.env x14:=a0w ok dr h14 60 (by kernel_rfl)
def M15:List Fact:=x14 :: M14
theorem h15:∀ x ∈ M15,a0i L.env x:=a0p k14 h14
theorem k15:a0i L.env x15:=a0w ok dr h15 60 (by kernel_rfl)
def M16:List Fact:=x15 :: M15
theorem h16:∀ x ∈ M16,a0i L.env x:=a0p k15 h15
theorem k16:a0i L.env x16:=a0w ok dr h16 60 (by kernel_rfl)
def M17:List Fact:=x16 :: M16
theorem h17:∀ x ∈ M17,a0i L.env x:=a0p k16 h16
theorem k17:a0i L.env x17:=a0w ok dr h17 60 (by kernel_rfl)
def M18:List Fact:=x17 :: M17
theorem h18:∀ x ∈ M18,a0i L.env x:=a0p k17 h17
theorem k18:a0i L.env x18:=a0w ok dr h18 60 (by kernel_rfl)
def M19:List Fact:=x18 :: M18
theorem h19:∀ x ∈ M19,a0i L.env x:=a0p k18 h18
theorem k19:a0i L.env x19:=a0w ok dr h19 60 (by kernel_rfl)
def M20:List Fact:=x19 :: M19
theorem h20:∀ x ∈ M20,a0i L.env x:=a0p k19 h19
theorem k20:a0i L.env x20:=a0w ok dr h20 60 (by kernel_rfl)
def M21:List Fact:=x20 :: M20
theorem h21:∀ x ∈ M21,a0i L.env x:=a0p k20 h20
theorem k21:a0i L.env x21:=a0w ok dr h21 60 (by kernel_rfl)
def M22:List Fact:=x21 :: M21
theorem h22:∀ x ∈ M22,a0i L.env x:=a0p k21 h21
theorem k22:a0i L.env x22:=a0w ok dr h22 60 (by kernel_rfl)
def M23:List Fact:=x22 :: M22
theorem h23:∀ x ∈ M23,a0i L.env x:=a0p k22 h22
theorem k23:a0i L.env x23:=a0w ok dr h23 60 (by kernel_rfl)
def M24:List Fact:=x23 :: M23
theorem h24:∀ x ∈ M24,a0i L.env x:=a0p k23 h23
theorem k24:a0i L.env x24:=a0w ok dr h24 60 (by kernel_rfl)
def M25:List Fact:=x24 :: M24
theorem h25:∀ x ∈ M25,a0i L.env x:=a0p k24 h24
theorem k25:a0i L.env x25:=a0w ok dr h25 60 (by kernel_rfl)
def M26:List Fact:=x25 :: M25
theorem h26:∀ x ∈ M26,a0i L.env x:=a0p k25 h25
theorem k26:a0i L.env x26:=a0w ok dr h26 60 (by kernel_rfl)
def M27:List Fact:=x26 :: M26
theorem h27:∀ x ∈ M27,a0i L.env x:=a0p k26 h26
theorem k27:a0i L.env x27:=a0w ok dr h27 60 (by kernel_rfl)
def M28:List Fact:=x27 :: M27
theorem h28:∀ x ∈ M28,a0i L.env x:=a0p k27 h27
theorem k28:a0i L.env x28:=a0w ok dr h28 60 (by kernel_rfl)
def M29:List Fact:=x28 :: M28
theorem h29:∀ x ∈ M29,a0i L.env x:=a0p k28 h28
theorem k29:a0i L.env x29:=a0w ok dr h29 60 (by kernel_rfl)
def M30:List Fact:=x29 :: M29
theorem h30:∀ x ∈ M30,a0i L.env x:=a0p k29 h29
theorem k30:a0i L.env x30:=a0w ok dr h30 60 (by kernel_rfl)
def M31:List Fact:=x30 :: M30
theorem h31:∀ x ∈ M31,a0i L.env x:=a0p k30 h30
theorem k31:a0i L.env x31:=a0w ok dr h31 60 (by kernel_rfl)
def M32:List Fact:=x31 :: M31
theorem h32:∀ x ∈ M32,a0i L.env x:=a0p k31 h31
theorem k32:a0i L.env x32:=d25 ok dr h32 60 (by kernel_rfl)
def M33:List Fact:=x32 :: M32
theorem h33:∀ x ∈ M33,a0i L.env x:=a0p k32 h32
theorem kn0:a0i L.env ⟨171,[.str [110,48,48]],.bool true⟩:=a0w ok dr h33 60 (by kernel_rfl)
theorem kn1:a0i L.env ⟨171,[.str [110,48,49]],.bool true⟩:=a0w ok dr h33 60 (by kernel_rfl)
theorem kn2:a0i L.env ⟨171,[.str [110,48,50]],.bool true⟩:=a0w ok dr h33 60 (by kernel_rfl)
theorem kn3:a0i L.env ⟨171,[.str [110,48,51]],.bool true⟩:=a0w ok dr h33 60 (by kernel_rfl)
theorem kn4:a0i L.env ⟨171,[.str [110,48,52]],.bool true⟩:=a0w ok dr h33 60 (by kernel_rfl)
theorem kn5:a0i L.env ⟨171,[.str [110,48,53]],.bool true⟩:=a0w ok dr h33 60 (by kernel_rfl)
theorem kn6:a0i L.env ⟨171,[.str [110,48,54]],.bool true⟩:=a0w ok dr h33 60 (by kernel_rfl)
theorem kn7:a0i L.env ⟨171,[.str [110,48,55]],.bool true⟩:=a0w ok dr h33 60 (by kernel_rfl)
theorem kn8:a0i L.env ⟨171,[.str [110,48,56]],.bool true⟩:=a0w ok dr h33 60 (by kernel_rfl)
theorem kn9:a0i L.env ⟨171,[.str [110,48,57]],.bool true⟩:=a0w ok dr h33 60 (by kernel_rfl)
theorem f1v:a0i L.env ⟨171,[.str [110,49,48]],.bool true⟩:=a0w ok dr h33 60 (by kernel_rfl)
theorem f1u:a0i L.env ⟨171,[.str [110,49,49]],.bool true⟩:=a0w ok dr h33 60 (by kernel_rfl)
theorem f1t:a0i L.env ⟨171,[.str [110,49,50]],.bool true⟩:=a0w ok dr h33 60 (by kernel_rfl)
theorem f1s:a0i L.env ⟨171,[.str [110,49,51]],.bool true⟩:=a0w ok dr h33 60 (by kernel_rfl)
theorem livesFacts:∀ y ∈ Mf,a0i L.env y:=by
 intro y hy
 simp only [Mf,List.mem_cons,List.not_mem_nil,or_false] at hy
 rcases hy with rfl|rfl|rfl|rfl|rfl|rfl|rfl|rfl|rfl|rfl|rfl|rfl|rfl|rfl|rfl
 ·exact k32
 ·exact kn0
 ·exact kn1
 ·exact kn2
 ·exact kn3
 ·exact kn4
 ·exact kn5
 ·exact kn6
 ·exact kn7
 ·exact kn8
 ·exact kn9
 ·exact f1v
 ·exact f1u
 ·exact f1t
 ·exact f1s
end Go.MInst
