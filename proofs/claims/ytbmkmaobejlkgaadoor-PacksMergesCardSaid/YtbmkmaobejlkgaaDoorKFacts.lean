/- The closed run of the chapter's examples, by the kernel (printed by facts.py). -/
import Derived.Test.YtbmkmaobejlkgaaDoorKBase
import Derived.Test.YtbmkmaobejlkgaaDoorKText
set_option linter.unusedSimpArgs false
set_option linter.unusedVariables false
namespace Go.KInst
open Go.Proofs Go.Ax
set_option maxRecDepth 1000000
def x0:Fact:=⟨56,[.str [48,88,124]],.tuple [.agg [.islice [[.int .u8 0],[.int .u8 2]] (some 2),.islice [] (some 0)],.int .i64 0]⟩
def x1:Fact:=⟨56,[.str [88,49,124]],.tuple [.agg [.islice [[.int .u8 2],[.int .u8 1]] (some 2),.islice [] (some 0)],.int .i64 0]⟩
def x2:Fact:=⟨56,[.str [49,88,124]],.tuple [.agg [.islice [[.int .u8 1],[.int .u8 2]] (some 2),.islice [] (some 0)],.int .i64 0]⟩
def x3:Fact:=⟨56,[.str [48,49,124]],.tuple [.agg [.islice [[.int .u8 0],[.int .u8 1]] (some 2),.islice [] (some 0)],.int .i64 0]⟩
def x4:Fact:=⟨42,[.agg [.islice [[.int .u8 0],[.int .u8 2]] (some 2),.islice [] (some 0)]],.int .i64 0⟩
def x5:Fact:=⟨42,[.agg [.islice [[.int .u8 2],[.int .u8 1]] (some 2),.islice [] (some 0)]],.int .i64 0⟩
def x6:Fact:=⟨42,[.agg [.islice [[.int .u8 1],[.int .u8 2]] (some 2),.islice [] (some 0)]],.int .i64 0⟩
def x7:Fact:=⟨42,[.agg [.islice [[.int .u8 0],[.int .u8 1]] (some 2),.islice [] (some 0)]],.int .i64 0⟩
def x8:Fact:=⟨51,[.agg [.islice [[.int .u8 0],[.int .u8 2]] (some 2),.islice [] (some 0)]],.islice [[.int .u8 0],[.int .u8 2]] none⟩
def x9:Fact:=⟨48,[.agg [.islice [[.int .u8 2],[.int .u8 1]] (some 2),.islice [] (some 0)],.agg [.islice [[.int .u8 0],[.int .u8 2]] (some 2),.islice [] (some 0)]],.int .i64 0⟩
def x10:Fact:=⟨51,[.agg [.islice [[.int .u8 2],[.int .u8 1]] (some 2),.islice [] (some 0)]],.islice [[.int .u8 2],[.int .u8 1]] none⟩
def x11:Fact:=⟨48,[.agg [.islice [[.int .u8 0],[.int .u8 2]] (some 2),.islice [] (some 0)],.agg [.islice [[.int .u8 2],[.int .u8 1]] (some 2),.islice [] (some 0)]],.int .i64 0⟩
def x12:Fact:=⟨21,[.agg [.islice [[.int .u8 0],[.int .u8 2]] (some 2),.islice [] (some 0)],.agg [.islice [[.int .u8 2],[.int .u8 1]] (some 2),.islice [] (some 0)]],.tuple [.agg [.islice [[.int .u8 0],[.int .u8 1]] (some 2),.islice [] (some 0)],.int .i64 0]⟩
def x13:Fact:=⟨51,[.agg [.islice [[.int .u8 0],[.int .u8 1]] (some 2),.islice [] (some 0)]],.islice [[.int .u8 0],[.int .u8 1]] none⟩
def x14:Fact:=⟨48,[.agg [.islice [[.int .u8 1],[.int .u8 2]] (some 2),.islice [] (some 0)],.agg [.islice [[.int .u8 0],[.int .u8 1]] (some 2),.islice [] (some 0)]],.int .i64 1⟩
def x15:Fact:=⟨48,[.agg [.islice [[.int .u8 0],[.int .u8 1]] (some 2),.islice [] (some 0)],.agg [.islice [[.int .u8 0],[.int .u8 1]] (some 2),.islice [] (some 0)]],.int .i64 0⟩
def x16:Fact:=⟨21,[.agg [.islice [[.int .u8 0],[.int .u8 1]] (some 2),.islice [] (some 0)],.agg [.islice [[.int .u8 0],[.int .u8 1]] (some 2),.islice [] (some 0)]],.tuple [.agg [.islice [[.int .u8 0],[.int .u8 1]] (some 2),.islice [] (some 0)],.int .i64 0]⟩
def x17:Fact:=⟨36,[.int .u64 11,.int .u64 15],.bool true⟩
def x18:Fact:=⟨36,[.int .u64 13,.int .u64 11],.bool false⟩
def x19:Fact:=⟨36,[.int .u64 14,.int .u64 11],.bool false⟩
def x20:Fact:=⟨36,[.int .u64 15,.int .u64 11],.bool false⟩
def x21:Fact:=⟨6,[],.bool true⟩
-- own operations: 168
def M0:List Fact:=t0 :: t1 :: []
theorem h0:∀ x ∈ M0,FactOk L.env x:=(facts_cons kt0 (facts_cons kt1 facts_nil))
theorem k0:FactOk L.env x0:=fact_of ok dr h0 60 (by kernel_rfl)
-- own operations: 168
def M1:List Fact:=x0 :: M0
theorem h1:∀ x ∈ M1,FactOk L.env x:=facts_cons k0 h0
theorem k1:FactOk L.env x1:=fact_of ok dr h1 60 (by kernel_rfl)
-- own operations: 168
def M2:List Fact:=x1 :: M1
theorem h2:∀ x ∈ M2,FactOk L.env x:=facts_cons k1 h1
theorem k2:FactOk L.env x2:=fact_of ok dr h2 60 (by kernel_rfl)
-- own operations: 168
def M3:List Fact:=x2 :: M2
theorem h3:∀ x ∈ M3,FactOk L.env x:=facts_cons k2 h2
theorem k3:FactOk L.env x3:=fact_of ok dr h3 60 (by kernel_rfl)
-- own operations: 60
def M4:List Fact:=x3 :: M3
theorem h4:∀ x ∈ M4,FactOk L.env x:=facts_cons k3 h3
theorem k4:FactOk L.env x4:=fact_of ok dr h4 60 (by kernel_rfl)
-- own operations: 60
def M5:List Fact:=x4 :: M4
theorem h5:∀ x ∈ M5,FactOk L.env x:=facts_cons k4 h4
theorem k5:FactOk L.env x5:=fact_of ok dr h5 60 (by kernel_rfl)
-- own operations: 60
def M6:List Fact:=x5 :: M5
theorem h6:∀ x ∈ M6,FactOk L.env x:=facts_cons k5 h5
theorem k6:FactOk L.env x6:=fact_of ok dr h6 60 (by kernel_rfl)
-- own operations: 60
def M7:List Fact:=x6 :: M6
theorem h7:∀ x ∈ M7,FactOk L.env x:=facts_cons k6 h6
theorem k7:FactOk L.env x7:=fact_of ok dr h7 60 (by kernel_rfl)
-- own operations: 93
def M8:List Fact:=x7 :: M7
theorem h8:∀ x ∈ M8,FactOk L.env x:=facts_cons k7 h7
theorem k8:FactOk L.env x8:=fact_of ok dr h8 60 (by kernel_rfl)
-- own operations: 146
def M9:List Fact:=x8 :: M8
theorem h9:∀ x ∈ M9,FactOk L.env x:=facts_cons k8 h8
theorem k9:FactOk L.env x9:=fact_of ok dr h9 60 (by kernel_rfl)
-- own operations: 93
def M10:List Fact:=x9 :: M9
theorem h10:∀ x ∈ M10,FactOk L.env x:=facts_cons k9 h9
theorem k10:FactOk L.env x10:=fact_of ok dr h10 60 (by kernel_rfl)
-- own operations: 146
def M11:List Fact:=x10 :: M10
theorem h11:∀ x ∈ M11,FactOk L.env x:=facts_cons k10 h10
theorem k11:FactOk L.env x11:=fact_of ok dr h11 60 (by kernel_rfl)
-- own operations: 171
def M12:List Fact:=x11 :: M11
theorem h12:∀ x ∈ M12,FactOk L.env x:=facts_cons k11 h11
theorem k12:FactOk L.env x12:=fact_of ok dr h12 60 (by kernel_rfl)
-- own operations: 93
def M13:List Fact:=x12 :: M12
theorem h13:∀ x ∈ M13,FactOk L.env x:=facts_cons k12 h12
theorem k13:FactOk L.env x13:=fact_of ok dr h13 60 (by kernel_rfl)
-- own operations: 149
def M14:List Fact:=x13 :: M13
theorem h14:∀ x ∈ M14,FactOk L.env x:=facts_cons k13 h13
theorem k14:FactOk L.env x14:=fact_of ok dr h14 60 (by kernel_rfl)
-- own operations: 146
def M15:List Fact:=x14 :: M14
theorem h15:∀ x ∈ M15,FactOk L.env x:=facts_cons k14 h14
theorem k15:FactOk L.env x15:=fact_of ok dr h15 60 (by kernel_rfl)
-- own operations: 171
def M16:List Fact:=x15 :: M15
theorem h16:∀ x ∈ M16,FactOk L.env x:=facts_cons k15 h15
theorem k16:FactOk L.env x16:=fact_of ok dr h16 60 (by kernel_rfl)
-- own operations: 97
def M17:List Fact:=x16 :: M16
theorem h17:∀ x ∈ M17,FactOk L.env x:=facts_cons k16 h16
theorem k17:FactOk L.env x17:=fact_of ok dr h17 60 (by kernel_rfl)
-- own operations: 130
def M18:List Fact:=x17 :: M17
theorem h18:∀ x ∈ M18,FactOk L.env x:=facts_cons k17 h17
theorem k18:FactOk L.env x18:=fact_of ok dr h18 60 (by kernel_rfl)
-- own operations: 130
def M19:List Fact:=x18 :: M18
theorem h19:∀ x ∈ M19,FactOk L.env x:=facts_cons k18 h18
theorem k19:FactOk L.env x19:=fact_of ok dr h19 60 (by kernel_rfl)
-- own operations: 104
def M20:List Fact:=x19 :: M19
theorem h20:∀ x ∈ M20,FactOk L.env x:=facts_cons k19 h19
theorem k20:FactOk L.env x20:=fact_of ok dr h20 60 (by kernel_rfl)
-- own operations: 6655
def M21:List Fact:=x20 :: M20
theorem h21:∀ x ∈ M21,FactOk L.env x:=facts_cons k20 h20
theorem k21:FactOk L.env x21:=fact_of ok dr h21 60 (by kernel_rfl)
theorem livesFacts:∀ y ∈ Mf,FactOk L.env y:=by
 intro y hy
 simp only [Mf,List.mem_cons,List.not_mem_nil,or_false] at hy
 rcases hy with rfl
 ·exact k21
end Go.KInst
