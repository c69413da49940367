/- Part of a proof. No condition. -/
import Derived.Test.YtlldffjabagdbaaGreatDoorTDc
import Derived.Test.YtlldffjabagdbaaGreatDoorAxD
set_option linter.unusedSimpArgs false
set_option linter.unusedVariables false
namespace Go.TInst
open Go.Proofs Go.Ax Go.Pc
set_option maxRecDepth 100000
def gC:Cir:=⟨some (some 3),[⟨0,none,[],0,0⟩,⟨0,none,[],0,0⟩,⟨5,some (some 2),[0,1],0,0⟩],some (some 3),[[97],[98],[121]],some (some 1),[2]⟩
def gF:List Flt:=[⟨0,0,-1,0,0⟩,⟨0,0,-1,1,0⟩,⟨0,1,-1,0,0⟩,⟨0,1,-1,1,0⟩,⟨0,2,-1,0,0⟩,⟨0,2,-1,1,0⟩,⟨0,2,0,0,0⟩,⟨0,2,0,1,0⟩,⟨0,2,1,0,0⟩,⟨0,2,1,1,0⟩]
def gD:Ded:=⟨gC.nodes,[0,1,2],[0,1,0],gF⟩
theorem f5r:gD.ok:=by
 refine⟨g1n _,?_,by decide,by decide,by decide,by decide,by decide,rfl,by decide,by decide⟩;intro i n h hc m hm
 match i,h with
 |0,h=>cases h;cases hc
 |1,h=>cases h;cases hc
 |2,h=>cases h;revert hm;revert m;decide
theorem gM:Mach0 gC gD:=⟨rfl,f5r,by decide,by decide,by decide,by decide,by decide⟩
theorem gS0:gD.dset 0=[1]:=by decide+kernel
theorem gS1:gD.dset 1=[2]:=by decide+kernel
theorem gS2:gD.dset 2=[1,5,7]:=by decide+kernel
theorem gSd:(a1p gD.fs.length λi=>gD.outT gC.outs i||gD.staT (kinds gC.nodes 14) i)=[1,5,7]:=by decide+kernel
def gP:Pat:=⟨some (some 2),[0,1],none,[]⟩
theorem a5m{x:Fact}(hx:a0m L.env x)(h1:L.env.ext x.g=false)(h2:(L.env.fn x.g).isSome=true)(ha:a0l x.args=[])(hv:refs x.v=[])(d:Bool)(H:a03):a0b L.env d (sem L.env Mf) (.func (.func x.g) [] []) x.args H=some (x.v,H,[]):=a04 h1 h2 (by simp) ha hx hv
def w0_:List AV:=[.islice [[.int .u8 0,.nilslice,.int .i64 0,.int .i64 0],[.int .u8 0,.nilslice,.int .i64 0,.int .i64 0],[.int .u8 5,.islice [[.int .i64 0],[.int .i64 1]] (some 2),.int .i64 0,.int .i64 0]] (some 3),.islice [[.str [97]],[.str [98]],[.str [121]]] (some 3),.nilslice,.islice [[.int .i64 2]] (some 1)]
def x0:Fact:=⟨37,[],.agg w0_⟩
def x1:Fact:=⟨56,[.int .u8 0],.tuple [.int .i64 0,.int .i64 0]⟩
def x2:Fact:=⟨152,[.agg w0_,.agg [.int .u8 0,.nilslice,.int .i64 0,.int .i64 0]],.bool true⟩
def x3:Fact:=⟨132,[.agg w0_,.agg [.int .u8 0,.nilslice,.int .i64 0,.int .i64 0]],.int .i64 0⟩
def x4:Fact:=⟨56,[.int .u8 5],.tuple [.int .i64 2,.int .i64 16]⟩
def x5:Fact:=⟨156,[.int .i64 0,.iptr w0_],.bool false⟩
def x6:Fact:=⟨156,[.int .i64 1,.iptr w0_],.bool false⟩
def x7:Fact:=⟨152,[.agg w0_,.agg [.int .u8 5,.islice [[.int .i64 0],[.int .i64 1]] (some 2),.int .i64 0,.int .i64 0]],.bool true⟩
def x8:Fact:=⟨132,[.agg w0_,.agg [.int .u8 5,.islice [[.int .i64 0],[.int .i64 1]] (some 2),.int .i64 0,.int .i64 0]],.int .i64 0⟩
def x9:Fact:=⟨182,[.str [40,41,61,44,35],.int .u8 97],.int .i64 (-1)⟩
def x10:Fact:=⟨179,[.str [40,41,61,44,35],.int .i32 97],.int .i64 (-1)⟩
def x11:Fact:=⟨171,[.str [40,41,61,44,35],.int .i32 97],.bool false⟩
def x12:Fact:=⟨170,[.int .i32 97],.bool false⟩
def x13:Fact:=⟨153,[.str [97]],.bool true⟩
def x14:Fact:=⟨182,[.str [40,41,61,44,35],.int .u8 98],.int .i64 (-1)⟩
def x15:Fact:=⟨179,[.str [40,41,61,44,35],.int .i32 98],.int .i64 (-1)⟩
def x16:Fact:=⟨171,[.str [40,41,61,44,35],.int .i32 98],.bool false⟩
def x17:Fact:=⟨170,[.int .i32 98],.bool false⟩
def x18:Fact:=⟨153,[.str [98]],.bool true⟩
def x19:Fact:=⟨182,[.str [40,41,61,44,35],.int .u8 121],.int .i64 (-1)⟩
def x20:Fact:=⟨179,[.str [40,41,61,44,35],.int .i32 121],.int .i64 (-1)⟩
def x21:Fact:=⟨171,[.str [40,41,61,44,35],.int .i32 121],.bool false⟩
def x22:Fact:=⟨170,[.int .i32 121],.bool false⟩
def x23:Fact:=⟨153,[.str [121]],.bool true⟩
def x24:Fact:=⟨133,[.agg w0_],.int .i64 0⟩
def x25:Fact:=⟨156,[.int .i64 2,.iptr w0_],.bool false⟩
def x26:Fact:=⟨93,[.agg w0_],.int .i64 0⟩
def x27:Fact:=⟨24,[.int .u8 5],.bool true⟩
def x28:Fact:=⟨28,[.nilslice],.nilslice⟩
def x29:Fact:=⟨94,[.agg w0_],.islice [[.islice [[.int .i64 2,.int .i64 0]] (some 1)],[.islice [[.int .i64 2,.int .i64 1]] (some 1)],[.nilslice]] (some 3)⟩
def x30:Fact:=⟨48,[.agg w0_],.tuple [.islice [[.int .i64 0],[.int .i64 0],[.int .i64 1]] (some 3),.int .i64 0]⟩
def x31:Fact:=⟨66,[.agg w0_],.int .i64 0⟩
def x32:Fact:=⟨27,[.agg w0_],.int .i64 0⟩
def x33:Fact:=⟨10,[.agg w0_],.tuple [.islice [[.int .i64 0,.int .i64 (-1)],[.int .i64 1,.int .i64 (-1)],[.int .i64 2,.int .i64 (-1)],[.int .i64 2,.int .i64 0],[.int .i64 2,.int .i64 1]] (some 5),.int .i64 0]⟩
def x34:Fact:=⟨36,[.agg w0_,.int .u8 0],.tuple [.islice [[.int .u8 0,.int .i64 0,.int .i64 (-1),.int .u8 0,.int .i64 0],[.int .u8 0,.int .i64 0,.int .i64 (-1),.int .u8 1,.int .i64 0],[.int .u8 0,.int .i64 1,.int .i64 (-1),.int .u8 0,.int .i64 0],[.int .u8 0,.int .i64 1,.int .i64 (-1),.int .u8 1,.int .i64 0],[.int .u8 0,.int .i64 2,.int .i64 (-1),.int .u8 0,.int .i64 0],[.int .u8 0,.int .i64 2,.int .i64 (-1),.int .u8 1,.int .i64 0],[.int .u8 0,.int .i64 2,.int .i64 0,.int .u8 0,.int .i64 0],[.int .u8 0,.int .i64 2,.int .i64 0,.int .u8 1,.int .i64 0],[.int .u8 0,.int .i64 2,.int .i64 1,.int .u8 0,.int .i64 0],[.int .u8 0,.int .i64 2,.int .i64 1,.int .u8 1,.int .i64 0]] (some 10),.int .i64 0]⟩
def x35:Fact:=⟨69,[.nilslice],.nilslice⟩
def x36:Fact:=⟨104,[.agg w0_],.bool true⟩
def x37:Fact:=⟨113,[.agg w0_,.agg [.int .i64 0,.int .i64 (-1)]],.bool true⟩
def x38:Fact:=⟨75,[.agg w0_,.agg [.int .u8 0,.int .i64 0,.int .i64 (-1),.int .u8 0,.int .i64 0]],.int .i64 0⟩
def x39:Fact:=⟨75,[.agg w0_,.agg [.int .u8 0,.int .i64 0,.int .i64 (-1),.int .u8 1,.int .i64 0]],.int .i64 0⟩
def x40:Fact:=⟨113,[.agg w0_,.agg [.int .i64 1,.int .i64 (-1)]],.bool true⟩
def x41:Fact:=⟨75,[.agg w0_,.agg [.int .u8 0,.int .i64 1,.int .i64 (-1),.int .u8 0,.int .i64 0]],.int .i64 0⟩
def x42:Fact:=⟨75,[.agg w0_,.agg [.int .u8 0,.int .i64 1,.int .i64 (-1),.int .u8 1,.int .i64 0]],.int .i64 0⟩
def x43:Fact:=⟨113,[.agg w0_,.agg [.int .i64 2,.int .i64 (-1)]],.bool true⟩
def x44:Fact:=⟨75,[.agg w0_,.agg [.int .u8 0,.int .i64 2,.int .i64 (-1),.int .u8 0,.int .i64 0]],.int .i64 0⟩
def x45:Fact:=⟨75,[.agg w0_,.agg [.int .u8 0,.int .i64 2,.int .i64 (-1),.int .u8 1,.int .i64 0]],.int .i64 0⟩
def x46:Fact:=⟨113,[.agg w0_,.agg [.int .i64 2,.int .i64 0]],.bool true⟩
def x47:Fact:=⟨75,[.agg w0_,.agg [.int .u8 0,.int .i64 2,.int .i64 0,.int .u8 0,.int .i64 0]],.int .i64 0⟩
def x48:Fact:=⟨75,[.agg w0_,.agg [.int .u8 0,.int .i64 2,.int .i64 0,.int .u8 1,.int .i64 0]],.int .i64 0⟩
def x49:Fact:=⟨113,[.agg w0_,.agg [.int .i64 2,.int .i64 1]],.bool true⟩
def x50:Fact:=⟨75,[.agg w0_,.agg [.int .u8 0,.int .i64 2,.int .i64 1,.int .u8 0,.int .i64 0]],.int .i64 0⟩
def x51:Fact:=⟨75,[.agg w0_,.agg [.int .u8 0,.int .i64 2,.int .i64 1,.int .u8 1,.int .i64 0]],.int .i64 0⟩
def x52:Fact:=⟨53,[.agg w0_],.islice [[.int .i64 0],[.int .i64 1]] (some 2)⟩
def x53:Fact:=⟨33,[.agg w0_],.nilslice⟩
def w1_:List AV:=[.islice [[.int .u8 0],[.int .u8 1]] (some 2),.nilslice]
def x54:Fact:=⟨22,[.agg w0_,.agg w1_],.int .i64 0⟩
def x55:Fact:=⟨78,[.agg w0_,.agg w1_],.int .i64 0⟩
def x56:Fact:=⟨105,[.agg w1_],.bool true⟩
def x57:Fact:=⟨67,[.agg w0_,.islice [[.int .u8 0,.int .i64 0,.int .i64 (-1),.int .u8 0,.int .i64 0],[.int .u8 0,.int .i64 0,.int .i64 (-1),.int .u8 1,.int .i64 0],[.int .u8 0,.int .i64 1,.int .i64 (-1),.int .u8 0,.int .i64 0],[.int .u8 0,.int .i64 1,.int .i64 (-1),.int .u8 1,.int .i64 0],[.int .u8 0,.int .i64 2,.int .i64 (-1),.int .u8 0,.int .i64 0],[.int .u8 0,.int .i64 2,.int .i64 (-1),.int .u8 1,.int .i64 0],[.int .u8 0,.int .i64 2,.int .i64 0,.int .u8 0,.int .i64 0],[.int .u8 0,.int .i64 2,.int .i64 0,.int .u8 1,.int .i64 0],[.int .u8 0,.int .i64 2,.int .i64 1,.int .u8 0,.int .i64 0],[.int .u8 0,.int .i64 2,.int .i64 1,.int .u8 1,.int .i64 0]] (some 10),.agg w1_],.int .i64 0⟩
def x58:Fact:=⟨51,[.int .i64 0,.int .i64 0],.int .i64 0⟩
def x59:Fact:=⟨51,[.int .i64 1,.int .i64 0],.int .i64 1⟩
def x60:Fact:=⟨21,[.agg w0_],.tuple [.islice [[.int .i64 0],[.int .i64 1],[.int .i64 2]] (some 3),.int .i64 0]⟩
def x61:Fact:=⟨65,[.nilslice],.nilslice⟩
def x62:Fact:=⟨9,[.agg w0_,.agg w1_],.tuple [.agg [.islice [[.int .u8 0]] (some 1),.nilslice],.islice [[.int .u8 0],[.int .u8 1],[.int .u8 0]] (some 3),.int .i64 0]⟩
def M0:List Fact:=[]
theorem h0:∀x∈M0,a0m L.env x:=a3f
theorem k0:a0m L.env x0:=a0u h0 60 (by kernel_rfl)
def M1:List Fact:=x0::M0
theorem h1:∀x∈M1,a0m L.env x:=a09 k0 h0
theorem k1:a0m L.env x1:=a0u h1 60 (by kernel_rfl)
def M2:List Fact:=x1::M1
theorem h2:∀x∈M2,a0m L.env x:=a09 k1 h1
theorem k2:a0m L.env x2:=a0u h2 60 (by kernel_rfl)
def M3:List Fact:=x2::M2
theorem h3:∀x∈M3,a0m L.env x:=a09 k2 h2
theorem k3:a0m L.env x3:=a0u h3 60 (by kernel_rfl)
def M4:List Fact:=x3::M3
theorem h4:∀x∈M4,a0m L.env x:=a09 k3 h3
theorem k4:a0m L.env x4:=a0u h4 60 (by kernel_rfl)
def M5:List Fact:=x4::M4
theorem h5:∀x∈M5,a0m L.env x:=a09 k4 h4
theorem k5:a0m L.env x5:=a0u h5 60 (by kernel_rfl)
def M6:List Fact:=x5::M5
theorem h6:∀x∈M6,a0m L.env x:=a09 k5 h5
theorem k6:a0m L.env x6:=a0u h6 60 (by kernel_rfl)
def M7:List Fact:=x6::M6
theorem h7:∀x∈M7,a0m L.env x:=a09 k6 h6
theorem k7:a0m L.env x7:=a0u h7 60 (by kernel_rfl)
def M8:List Fact:=x7::M7
theorem h8:∀x∈M8,a0m L.env x:=a09 k7 h7
theorem k8:a0m L.env x8:=a0u h8 60 (by kernel_rfl)
def M9:List Fact:=x8::M8
theorem h9:∀x∈M9,a0m L.env x:=a09 k8 h8
theorem k9:a0m L.env x9:=a0u h9 60 (by kernel_rfl)
def M10:List Fact:=x9::M9
theorem h10:∀x∈M10,a0m L.env x:=a09 k9 h9
theorem k10:a0m L.env x10:=a0u h10 60 (by kernel_rfl)
def M11:List Fact:=x10::M10
theorem h11:∀x∈M11,a0m L.env x:=a09 k10 h10
theorem k11:a0m L.env x11:=a0u h11 60 (by kernel_rfl)
def M12:List Fact:=x11::M11
theorem h12:∀x∈M12,a0m L.env x:=a09 k11 h11
theorem k12:a0m L.env x12:=a0u h12 60 (by kernel_rfl)
def M13:List Fact:=x12::M12
theorem h13:∀x∈M13,a0m L.env x:=a09 k12 h12
theorem k13:a0m L.env x13:=a0u h13 60 (by kernel_rfl)
def M14:List Fact:=x13::M13
theorem h14:∀x∈M14,a0m L.env x:=a09 k13 h13
theorem k14:a0m L.env x14:=a0u h14 60 (by kernel_rfl)
def M15:List Fact:=x14::M14
theorem h15:∀x∈M15,a0m L.env x:=a09 k14 h14
theorem k15:a0m L.env x15:=a0u h15 60 (by kernel_rfl)
def M16:List Fact:=x15::M15
theorem h16:∀x∈M16,a0m L.env x:=a09 k15 h15
theorem k16:a0m L.env x16:=a0u h16 60 (by kernel_rfl)
def M17:List Fact:=x16::M16
theorem h17:∀x∈M17,a0m L.env x:=a09 k16 h16
theorem k17:a0m L.env x17:=a0u h17 60 (by kernel_rfl)
def M18:List Fact:=x17::M17
theorem h18:∀x∈M18,a0m L.env x:=a09 k17 h17
theorem k18:a0m L.env x18:=a0u h18 60 (by kernel_rfl)
def M19:List Fact:=x18::M18
theorem h19:∀x∈M19,a0m L.env x:=a09 k18 h18
theorem k19:a0m L.env x19:=a0u h19 60 (by kernel_rfl)
def M20:List Fact:=x19::M19
theorem h20:∀x∈M20,a0m L.env x:=a09 k19 h19
theorem k20:a0m L.env x20:=a0u h20 60 (by kernel_rfl)
def M21:List Fact:=x20::M20
theorem h21:∀x∈M21,a0m L.env x:=a09 k20 h20
theorem k21:a0m L.env x21:=a0u h21 60 (by kernel_rfl)
def M22:List Fact:=x21::M21
theorem h22:∀x∈M22,a0m L.env x:=a09 k21 h21
theorem k22:a0m L.env x22:=a0u h22 60 (by kernel_rfl)
def M23:List Fact:=x22::M22
theorem h23:∀x∈M23,a0m L.env x:=a09 k22 h22
theorem k23:a0m L.env x23:=a0u h23 60 (by kernel_rfl)
def M24:List Fact:=x23::M23
theorem h24:∀x∈M24,a0m L.env x:=a09 k23 h23
theorem k24:a0m L.env x24:=a0u h24 60 (by kernel_rfl)
def M25:List Fact:=x24::M24
theorem h25:∀x∈M25,a0m L.env x:=a09 k24 h24
theorem k25:a0m L.env x25:=a0u h25 60 (by kernel_rfl)
def M26:List Fact:=x25::M25
theorem h26:∀x∈M26,a0m L.env x:=a09 k25 h25
theorem k26:a0m L.env x26:=a0u h26 60 (by kernel_rfl)
def M27:List Fact:=x26::M26
theorem h27:∀x∈M27,a0m L.env x:=a09 k26 h26
theorem k27:a0m L.env x27:=a0u h27 60 (by kernel_rfl)
def M28:List Fact:=x27::M27
theorem h28:∀x∈M28,a0m L.env x:=a09 k27 h27
theorem k28:a0m L.env x28:=a0u h28 60 (by kernel_rfl)
def M29:List Fact:=x28::M28
theorem h29:∀x∈M29,a0m L.env x:=a09 k28 h28
theorem k29:a0m L.env x29:=a0u h29 60 (by kernel_rfl)
def M30:List Fact:=x29::M29
theorem h30:∀x∈M30,a0m L.env x:=a09 k29 h29
theorem k30:a0m L.env x30:=a0u h30 60 (by kernel_rfl)
def M31:List Fact:=x30::M30
theorem h31:∀x∈M31,a0m L.env x:=a09 k30 h30
theorem k31:a0m L.env x31:=a0u h31 60 (by kernel_rfl)
def M32:List Fact:=x31::M31
theorem h32:∀x∈M32,a0m L.env x:=a09 k31 h31
theorem k32:a0m L.env x32:=a0u h32 60 (by kernel_rfl)
def M33:List Fact:=x32::M32
theorem h33:∀x∈M33,a0m L.env x:=a09 k32 h32
theorem k33:a0m L.env x33:=a0u h33 60 (by kernel_rfl)
def M34:List Fact:=x33::M33
theorem h34:∀x∈M34,a0m L.env x:=a09 k33 h33
theorem k34:a0m L.env x34:=a0u h34 60 (by kernel_rfl)
def M35:List Fact:=x34::M34
theorem h35:∀x∈M35,a0m L.env x:=a09 k34 h34
theorem k35:a0m L.env x35:=a0u h35 60 (by kernel_rfl)
def M36:List Fact:=x35::M35
theorem h36:∀x∈M36,a0m L.env x:=a09 k35 h35
theorem k36:a0m L.env x36:=a0u h36 60 (by kernel_rfl)
def M37:List Fact:=x36::M36
theorem h37:∀x∈M37,a0m L.env x:=a09 k36 h36
theorem k37:a0m L.env x37:=a0u h37 60 (by kernel_rfl)
def M38:List Fact:=x37::M37
theorem h38:∀x∈M38,a0m L.env x:=a09 k37 h37
theorem k38:a0m L.env x38:=a0u h38 60 (by kernel_rfl)
def M39:List Fact:=x38::M38
theorem h39:∀x∈M39,a0m L.env x:=a09 k38 h38
theorem k39:a0m L.env x39:=a0u h39 60 (by kernel_rfl)
def M40:List Fact:=x39::M39
theorem h40:∀x∈M40,a0m L.env x:=a09 k39 h39
theorem k40:a0m L.env x40:=a0u h40 60 (by kernel_rfl)
def M41:List Fact:=x40::M40
theorem h41:∀x∈M41,a0m L.env x:=a09 k40 h40
theorem k41:a0m L.env x41:=a0u h41 60 (by kernel_rfl)
def M42:List Fact:=x41::M41
theorem h42:∀x∈M42,a0m L.env x:=a09 k41 h41
theorem k42:a0m L.env x42:=a0u h42 60 (by kernel_rfl)
def M43:List Fact:=x42::M42
theorem h43:∀x∈M43,a0m L.env x:=a09 k42 h42
theorem k43:a0m L.env x43:=a0u h43 60 (by kernel_rfl)
def M44:List Fact:=x43::M43
theorem h44:∀x∈M44,a0m L.env x:=a09 k43 h43
theorem k44:a0m L.env x44:=a0u h44 60 (by kernel_rfl)
def M45:List Fact:=x44::M44
theorem h45:∀x∈M45,a0m L.env x:=a09 k44 h44
theorem k45:a0m L.env x45:=a0u h45 60 (by kernel_rfl)
def M46:List Fact:=x45::M45
theorem h46:∀x∈M46,a0m L.env x:=a09 k45 h45
theorem k46:a0m L.env x46:=a0u h46 60 (by kernel_rfl)
def M47:List Fact:=x46::M46
theorem h47:∀x∈M47,a0m L.env x:=a09 k46 h46
theorem k47:a0m L.env x47:=a0u h47 60 (by kernel_rfl)
def M48:List Fact:=x47::M47
theorem h48:∀x∈M48,a0m L.env x:=a09 k47 h47
theorem k48:a0m L.env x48:=a0u h48 60 (by kernel_rfl)
def M49:List Fact:=x48::M48
theorem h49:∀x∈M49,a0m L.env x:=a09 k48 h48
theorem k49:a0m L.env x49:=a0u h49 60 (by kernel_rfl)
def M50:List Fact:=x49::M49
theorem h50:∀x∈M50,a0m L.env x:=a09 k49 h49
theorem k50:a0m L.env x50:=a0u h50 60 (by kernel_rfl)
def M51:List Fact:=x50::M50
theorem h51:∀x∈M51,a0m L.env x:=a09 k50 h50
theorem k51:a0m L.env x51:=a0u h51 60 (by kernel_rfl)
def M52:List Fact:=x51::M51
theorem h52:∀x∈M52,a0m L.env x:=a09 k51 h51
theorem k52:a0m L.env x52:=a0u h52 60 (by kernel_rfl)
def M53:List Fact:=x52::M52
theorem h53:∀x∈M53,a0m L.env x:=a09 k52 h52
theorem k53:a0m L.env x53:=a0u h53 60 (by kernel_rfl)
def M54:List Fact:=x53::M53
theorem h54:∀x∈M54,a0m L.env x:=a09 k53 h53
theorem k54:a0m L.env x54:=a0u h54 60 (by kernel_rfl)
def M55:List Fact:=x54::M54
theorem h55:∀x∈M55,a0m L.env x:=a09 k54 h54
theorem k55:a0m L.env x55:=a0u h55 60 (by kernel_rfl)
def M56:List Fact:=x55::M55
theorem h56:∀x∈M56,a0m L.env x:=a09 k55 h55
theorem k56:a0m L.env x56:=a0u h56 60 (by kernel_rfl)
def M57:List Fact:=x56::M56
theorem h57:∀x∈M57,a0m L.env x:=a09 k56 h56
theorem k57:a0m L.env x57:=a0u h57 60 (by kernel_rfl)
def M58:List Fact:=x57::M57
theorem h58:∀x∈M58,a0m L.env x:=a09 k57 h57
theorem k58:a0m L.env x58:=a0u h58 60 (by kernel_rfl)
def M59:List Fact:=x58::M58
theorem h59:∀x∈M59,a0m L.env x:=a09 k58 h58
theorem k59:a0m L.env x59:=a0u h59 60 (by kernel_rfl)
def M60:List Fact:=x59::M59
theorem h60:∀x∈M60,a0m L.env x:=a09 k59 h59
theorem k60:a0m L.env x60:=a0u h60 60 (by kernel_rfl)
def M61:List Fact:=x60::M60
theorem h61:∀x∈M61,a0m L.env x:=a09 k60 h60
theorem k61:a0m L.env x61:=a0u h61 60 (by kernel_rfl)
def M62:List Fact:=x61::M61
theorem h62:∀x∈M62,a0m L.env x:=a09 k61 h61
theorem k62:a0m L.env x62:=a0u h62 60 (by kernel_rfl)
theorem e1d:DCalls gC gP gD:=by
 refine⟨⟨_,a5m k33 (by kernel_rfl) (by kernel_rfl) rfl rfl⟩,?_,a5m k55 (by kernel_rfl) (by kernel_rfl) rfl rfl,⟨.islice [[.int .u8 0]] (some 1),.nilslice,rfl,rfl,a5m k62 (by kernel_rfl) (by kernel_rfl) rfl rfl⟩,a5m k60 (by kernel_rfl) (by kernel_rfl) rfl rfl,by decide,by decide,by decide,by decide⟩
 ·intro f hf;have hf:f∈gF:=hf;simp only[gF,f6m,List.not_mem_nil,or_false]at hf;rcases hf with rfl|rfl|rfl|rfl|rfl|rfl|rfl|rfl|rfl|rfl
  ·exact a5m k38 (by kernel_rfl) (by kernel_rfl) rfl rfl
  ·exact a5m k39 (by kernel_rfl) (by kernel_rfl) rfl rfl
  ·exact a5m k41 (by kernel_rfl) (by kernel_rfl) rfl rfl
  ·exact a5m k42 (by kernel_rfl) (by kernel_rfl) rfl rfl
  ·exact a5m k44 (by kernel_rfl) (by kernel_rfl) rfl rfl
  ·exact a5m k45 (by kernel_rfl) (by kernel_rfl) rfl rfl
  ·exact a5m k47 (by kernel_rfl) (by kernel_rfl) rfl rfl
  ·exact a5m k48 (by kernel_rfl) (by kernel_rfl) rfl rfl
  ·exact a5m k50 (by kernel_rfl) (by kernel_rfl) rfl rfl
  ·exact a5m k51 (by kernel_rfl) (by kernel_rfl) rfl rfl
def x63:Fact:=⟨12,[.agg w0_,.islice [[.int .u8 0,.int .i64 0,.int .i64 (-1),.int .u8 0,.int .i64 0],[.int .u8 0,.int .i64 0,.int .i64 (-1),.int .u8 1,.int .i64 0],[.int .u8 0,.int .i64 1,.int .i64 (-1),.int .u8 0,.int .i64 0],[.int .u8 0,.int .i64 1,.int .i64 (-1),.int .u8 1,.int .i64 0],[.int .u8 0,.int .i64 2,.int .i64 (-1),.int .u8 0,.int .i64 0],[.int .u8 0,.int .i64 2,.int .i64 (-1),.int .u8 1,.int .i64 0],[.int .u8 0,.int .i64 2,.int .i64 0,.int .u8 0,.int .i64 0],[.int .u8 0,.int .i64 2,.int .i64 0,.int .u8 1,.int .i64 0],[.int .u8 0,.int .i64 2,.int .i64 1,.int .u8 0,.int .i64 0],[.int .u8 0,.int .i64 2,.int .i64 1,.int .u8 1,.int .i64 0]] (some 10),.agg w1_],.tuple [.islice [[.islice [[.int .i64 1]] (some 1)],[.islice [[.int .i64 2]] (some 1)],[.islice [[.int .i64 1],[.int .i64 5],[.int .i64 7]] (some 3)]] (some 3),.int .i64 0]⟩
def x64:Fact:=⟨13,[.agg w0_,.islice [[.int .u8 0,.int .i64 0,.int .i64 (-1),.int .u8 0,.int .i64 0],[.int .u8 0,.int .i64 0,.int .i64 (-1),.int .u8 1,.int .i64 0],[.int .u8 0,.int .i64 1,.int .i64 (-1),.int .u8 0,.int .i64 0],[.int .u8 0,.int .i64 1,.int .i64 (-1),.int .u8 1,.int .i64 0],[.int .u8 0,.int .i64 2,.int .i64 (-1),.int .u8 0,.int .i64 0],[.int .u8 0,.int .i64 2,.int .i64 (-1),.int .u8 1,.int .i64 0],[.int .u8 0,.int .i64 2,.int .i64 0,.int .u8 0,.int .i64 0],[.int .u8 0,.int .i64 2,.int .i64 0,.int .u8 1,.int .i64 0],[.int .u8 0,.int .i64 2,.int .i64 1,.int .u8 0,.int .i64 0],[.int .u8 0,.int .i64 2,.int .i64 1,.int .u8 1,.int .i64 0]] (some 10),.agg w1_],.tuple [.islice [[.int .i64 1],[.int .i64 5],[.int .i64 7]] (some 3),.int .i64 0]⟩
theorem k63:a0m L.env x63:=by
 have h:=d7o (rl:=some (some 10)) gM e1d;have e:d32 gC gD = .islice [[.islice [[.int .i64 1]] (some 1)],[.islice [[.int .i64 2]] (some 1)],[.islice [[.int .i64 1],[.int .i64 5],[.int .i64 7]] (some 3)]] (some 3):=by show AV.islice [[dsV (gD.dset 0)],[dsV (gD.dset 1)],[dsV (gD.dset 2)]] _=_;rw[gS0,gS1,gS2];rfl
 rw[e]at h;exact h
theorem k64:a0m L.env x64:=by have h:=e1j (rl:=some (some 10)) gM e1d (by decide) (by decide);rw[gSd]at h;exact h
def Mx:List Fact:=x64::x63::x62::M62
theorem hx:∀x∈Mx,a0m L.env x:=a09 k64 (a09 k63 (a09 k62 h62))
theorem d7n:sem L.env Mf 14 [] []=some (.bool true,[]):=a0u hx 60 (g:=14) (args:=[]) (v:=.bool true) (by kernel_rfl)
theorem lives_call{d:Bool}(H:a03):a0b L.env d (sem L.env Mf) (.func (.func 14) [] []) [] H=some (.bool true,H,[]):=a04 (by kernel_rfl) (by kernel_rfl) rfl rfl d7n rfl
end Go.TInst
