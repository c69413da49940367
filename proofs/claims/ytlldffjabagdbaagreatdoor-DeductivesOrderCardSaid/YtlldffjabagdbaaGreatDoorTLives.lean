/- Part of a proof. No condition. -/
import Derived.Test.YtlldffjabagdbaaGreatDoorTDc
import Derived.Test.YtlldffjabagdbaaGreatDoorAxF
set_option linter.unusedSimpArgs false
set_option linter.unusedVariables false
namespace Go.TInst
open Go.Proofs Go.Ax Go.Pc
set_option maxRecDepth 100000
def gC:Cir:=⟨some (some 3),[⟨0,none,[],0,0⟩,⟨0,none,[],0,0⟩,⟨5,some (some 2),[0,1],0,0⟩],some (some 3),[[97],[98],[121]],some (some 1),[2]⟩
def gF:List Flt:=[⟨0,0,-1,0,0⟩,⟨0,0,-1,1,0⟩,⟨0,1,-1,0,0⟩,⟨0,1,-1,1,0⟩,⟨0,2,-1,0,0⟩,⟨0,2,-1,1,0⟩,⟨0,2,0,0,0⟩,⟨0,2,0,1,0⟩,⟨0,2,1,0,0⟩,⟨0,2,1,1,0⟩]
def gD:Ded:=⟨gC.nodes,[0,1,2],[0,1,0],gF⟩
theorem e6c:gD.ok:=by
 refine ⟨List.Perm.refl _,?_,by decide,by decide,by decide,by decide,by decide,rfl,by decide,by decide⟩
 intro i n h hc m hm
 match i,h with
 | 0,h=>cases h;cases hc
 | 1,h=>cases h;cases hc
 | 2,h=>cases h;revert hm;revert m;decide
theorem gM:Mach0 gC gD:=⟨rfl,e6c,by decide,by decide,by decide,by decide,by decide⟩
theorem gS0:gD.dset 0 = [1]:=by decide +kernel
theorem gS1:gD.dset 1 = [2]:=by decide +kernel
theorem gS2:gD.dset 2 = [1,5,7]:=by decide +kernel
theorem gSd:(a1a gD.fs.length fun i=>gD.outT gC.outs i || gD.staT (kinds gC.nodes 14) i) = [1,5,7]:=by decide +kernel
def gP:Pat:=⟨some (some 2),[0,1],none,[]⟩
theorem a4f {x:Fact} (hx:a0b L.env x) (h1:L.env.ext x.g = false) (h2:(L.env.fn x.g).isSome = true) (ha:a0j x.args = []) (hv:refs x.v = []) (d:Bool) (H:a03):a0g L.env d (sem L.env Mf) (.func (.func x.g) [] []) x.args H = some (x.v,H,[]):=
 a04 h1 h2 (by simp) ha hx hv
def x0:Fact:=⟨37,[],.agg [.islice [[.int .u8 0,.nilslice,.int .i64 0,.int .i64 0],[.int .u8 0,.nilslice,.int .i64 0,.int .i64 0],[.int .u8 5,.islice [[.int .i64 0],[.int .i64 1]] (some 2),.int .i64 0,.int .i64 0]] (some 3),.islice [[.str [97]],[.str [98]],[.str [121]]] (some 3),.nilslice,.islice [[.int .i64 2]] (some 1)]⟩
def x1:Fact:=⟨56,[.int .u8 0],.tuple [.int .i64 0,.int .i64 0]⟩
def x2:Fact:=⟨152,[.agg [.islice [[.int .u8 0,.nilslice,.int .i64 0,.int .i64 0],[.int .u8 0,.nilslice,.int .i64 0,.int .i64 0],[.int .u8 5,.islice [[.int .i64 0],[.int .i64 1]] (some 2),.int .i64 0,.int .i64 0]] (some 3),.islice [[.str [97]],[.str [98]],[.str [121]]] (some 3),.nilslice,.islice [[.int .i64 2]] (some 1)],.agg [.int .u8 0,.nilslice,.int .i64 0,.int .i64 0]],.bool true⟩
def x3:Fact:=⟨132,[.agg [.islice [[.int .u8 0,.nilslice,.int .i64 0,.int .i64 0],[.int .u8 0,.nilslice,.int .i64 0,.int .i64 0],[.int .u8 5,.islice [[.int .i64 0],[.int .i64 1]] (some 2),.int .i64 0,.int .i64 0]] (some 3),.islice [[.str [97]],[.str [98]],[.str [121]]] (some 3),.nilslice,.islice [[.int .i64 2]] (some 1)],.agg [.int .u8 0,.nilslice,.int .i64 0,.int .i64 0]],.int .i64 0⟩
def x4:Fact:=⟨56,[.int .u8 5],.tuple [.int .i64 2,.int .i64 16]⟩
def x5:Fact:=⟨156,[.int .i64 0,.iptr [.islice [[.int .u8 0,.nilslice,.int .i64 0,.int .i64 0],[.int .u8 0,.nilslice,.int .i64 0,.int .i64 0],[.int .u8 5,.islice [[.int .i64 0],[.int .i64 1]] (some 2),.int .i64 0,.int .i64 0]] (some 3),.islice [[.str [97]],[.str [98]],[.str [121]]] (some 3),.nilslice,.islice [[.int .i64 2]] (some 1)]],.bool false⟩
def x6:Fact:=⟨156,[.int .i64 1,.iptr [.islice [[.int .u8 0,.nilslice,.int .i64 0,.int .i64 0],[.int .u8 0,.nilslice,.int .i64 0,.int .i64 0],[.int .u8 5,.islice [[.int .i64 0],[.int .i64 1]] (some 2),.int .i64 0,.int .i64 0]] (some 3),.islice [[.str [97]],[.str [98]],[.str [121]]] (some 3),.nilslice,.islice [[.int .i64 2]] (some 1)]],.bool false⟩
def x7:Fact:=⟨152,[.agg [.islice [[.int .u8 0,.nilslice,.int .i64 0,.int .i64 0],[.int .u8 0,.nilslice,.int .i64 0,.int .i64 0],[.int .u8 5,.islice [[.int .i64 0],[.int .i64 1]] (some 2),.int .i64 0,.int .i64 0]] (some 3),.islice [[.str [97]],[.str [98]],[.str [121]]] (some 3),.nilslice,.islice [[.int .i64 2]] (some 1)],.agg [.int .u8 5,.islice [[.int .i64 0],[.int .i64 1]] (some 2),.int .i64 0,.int .i64 0]],.bool true⟩
def x8:Fact:=⟨132,[.agg [.islice [[.int .u8 0,.nilslice,.int .i64 0,.int .i64 0],[.int .u8 0,.nilslice,.int .i64 0,.int .i64 0],[.int .u8 5,.islice [[.int .i64 0],[.int .i64 1]] (some 2),.int .i64 0,.int .i64 0]] (some 3),.islice [[.str [97]],[.str [98]],[.str [121]]] (some 3),.nilslice,.islice [[.int .i64 2]] (some 1)],.agg [.int .u8 5,.islice [[.int .i64 0],[.int .i64 1]] (some 2),.int .i64 0,.int .i64 0]],.int .i64 0⟩
def x9:Fact:=⟨182,[.str [40,41,61,44,35],.int .u8 97],.int .i64 (-1)⟩
def x10:Fact:=⟨179,[.str [40,41,61,44,35],.int .i32 97],.int .i64 (-1)⟩
def x11:Fact:=⟨171,[.str [40,41,61,44,35],.int .i32 97],.bool false⟩
def x12:Fact:=⟨170,[.int .i32 97],.bool false⟩
def x13:Fact:=⟨153,[.str [97]],.bool true⟩
def x14:Fact:=⟨182,[.str [40,41,61,44,35],.int .u8 98],.int .i64 (-1)⟩
def x15:Fact:=⟨179,[.str [40,41,61,44,35],.int .i32 98],.int .i64 (-1)⟩
def x16:Fact:=⟨171,[.str [40,41,61,44,35],.int .i32 98],.bool false⟩
def x17:Fact:=⟨170,[.int .i32 98],.bool false⟩
def x18:Fact:=⟨153,[.str [98]],.bool true⟩
def x19:Fact:=⟨182,[.str [40,41,61,44,35],.int .u8 121],.int .i64 (-1)⟩
def x20:Fact:=⟨179,[.str [40,41,61,44,35],.int .i32 121],.int .i64 (-1)⟩
def x21:Fact:=⟨171,[.str [40,41,61,44,35],.int .i32 121],.bool false⟩
def x22:Fact:=⟨170,[.int .i32 121],.bool false⟩
def x23:Fact:=⟨153,[.str [121]],.bool true⟩
def x24:Fact:=⟨133,[.agg [.islice [[.int .u8 0,.nilslice,.int .i64 0,.int .i64 0],[.int .u8 0,.nilslice,.int .i64 0,.int .i64 0],[.int .u8 5,.islice [[.int .i64 0],[.int .i64 1]] (some 2),.int .i64 0,.int .i64 0]] (some 3),.islice [[.str [97]],[.str [98]],[.str [121]]] (some 3),.nilslice,.islice [[.int .i64 2]] (some 1)]],.int .i64 0⟩
def x25:Fact:=⟨156,[.int .i64 2,.iptr [.islice [[.int .u8 0,.nilslice,.int .i64 0,.int .i64 0],[.int .u8 0,.nilslice,.int .i64 0,.int .i64 0],[.int .u8 5,.islice [[.int .i64 0],[.int .i64 1]] (some 2),.int .i64 0,.int .i64 0]] (some 3),.islice [[.str [97]],[.str [98]],[.str [121]]] (some 3),.nilslice,.islice [[.int .i64 2]] (some 1)]],.bool false⟩
def x26:Fact:=⟨93,[.agg [.islice [[.int .u8 0,.nilslice,.int .i64 0,.int .i64 0],[.int .u8 0,.nilslice,.int .i64 0,.int .i64 0],[.int .u8 5,.islice [[.int .i64 0],[.int .i64 1]] (some 2),.int .i64 0,.int .i64 0]] (some 3),.islice [[.str [97]],[.str [98]],[.str [121]]] (some 3),.nilslice,.islice [[.int .i64 2]] (some 1)]],.int .i64 0⟩
def x27:Fact:=⟨24,[.int .u8 5],.bool true⟩
def x28:Fact:=⟨28,[.nilslice],.nilslice⟩
def x29:Fact:=⟨94,[.agg [.islice [[.int .u8 0,.nilslice,.int .i64 0,.int .i64 0],[.int .u8 0,.nilslice,.int .i64 0,.int .i64 0],[.int .u8 5,.islice [[.int .i64 0],[.int .i64 1]] (some 2),.int .i64 0,.int .i64 0]] (some 3),.islice [[.str [97]],[.str [98]],[.str [121]]] (some 3),.nilslice,.islice [[.int .i64 2]] (some 1)]],.islice [[.islice [[.int .i64 2,.int .i64 0]] (some 1)],[.islice [[.int .i64 2,.int .i64 1]] (some 1)],[.nilslice]] (some 3)⟩
def x30:Fact:=⟨48,[.agg [.islice [[.int .u8 0,.nilslice,.int .i64 0,.int .i64 0],[.int .u8 0,.nilslice,.int .i64 0,.int .i64 0],[.int .u8 5,.islice [[.int .i64 0],[.int .i64 1]] (some 2),.int .i64 0,.int .i64 0]] (some 3),.islice [[.str [97]],[.str [98]],[.str [121]]] (some 3),.nilslice,.islice [[.int .i64 2]] (some 1)]],.tuple [.islice [[.int .i64 0],[.int .i64 0],[.int .i64 1]] (some 3),.int .i64 0]⟩
def x31:Fact:=⟨66,[.agg [.islice [[.int .u8 0,.nilslice,.int .i64 0,.int .i64 0],[.int .u8 0,.nilslice,.int .i64 0,.int .i64 0],[.int .u8 5,.islice [[.int .i64 0],[.int .i64 1]] (some 2),.int .i64 0,.int .i64 0]] (some 3),.islice [[.str [97]],[.str [98]],[.str [121]]] (some 3),.nilslice,.islice [[.int .i64 2]] (some 1)]],.int .i64 0⟩
def x32:Fact:=⟨27,[.agg [.islice [[.int .u8 0,.nilslice,.int .i64 0,.int .i64 0],[.int .u8 0,.nilslice,.int .i64 0,.int .i64 0],[.int .u8 5,.islice [[.int .i64 0],[.int .i64 1]] (some 2),.int .i64 0,.int .i64 0]] (some 3),.islice [[.str [97]],[.str [98]],[.str [121]]] (some 3),.nilslice,.islice [[.int .i64 2]] (some 1)]],.int .i64 0⟩
def x33:Fact:=⟨10,[.agg [.islice [[.int .u8 0,.nilslice,.int .i64 0,.int .i64 0],[.int .u8 0,.nilslice,.int .i64 0,.int .i64 0],[.int .u8 5,.islice [[.int .i64 0],[.int .i64 1]] (some 2),.int .i64 0,.int .i64 0]] (some 3),.islice [[.str [97]],[.str [98]],[.str [121]]] (some 3),.nilslice,.islice [[.int .i64 2]] (some 1)]],.tuple [.islice [[.int .i64 0,.int .i64 (-1)],[.int .i64 1,.int .i64 (-1)],[.int .i64 2,.int .i64 (-1)],[.int .i64 2,.int .i64 0],[.int .i64 2,.int .i64 1]] (some 5),.int .i64 0]⟩
def x34:Fact:=⟨36,[.agg [.islice [[.int .u8 0,.nilslice,.int .i64 0,.int .i64 0],[.int .u8 0,.nilslice,.int .i64 0,.int .i64 0],[.int .u8 5,.islice [[.int .i64 0],[.int .i64 1]] (some 2),.int .i64 0,.int .i64 0]] (some 3),.islice [[.str [97]],[.str [98]],[.str [121]]] (some 3),.nilslice,.islice [[.int .i64 2]] (some 1)],.int .u8 0],.tuple [.islice [[.int .u8 0,.int .i64 0,.int .i64 (-1),.int .u8 0,.int .i64 0],[.int .u8 0,.int .i64 0,.int .i64 (-1),.int .u8 1,.int .i64 0],[.int .u8 0,.int .i64 1,.int .i64 (-1),.int .u8 0,.int .i64 0],[.int .u8 0,.int .i64 1,.int .i64 (-1),.int .u8 1,.int .i64 0],[.int .u8 0,.int .i64 2,.int .i64 (-1),.int .u8 0,.int .i64 0],[.int .u8 0,.int .i64 2,.int .i64 (-1),.int .u8 1,.int .i64 0],[.int .u8 0,.int .i64 2,.int .i64 0,.int .u8 0,.int .i64 0],[.int .u8 0,.int .i64 2,.int .i64 0,.int .u8 1,.int .i64 0],[.int .u8 0,.int .i64 2,.int .i64 1,.int .u8 0,.int .i64 0],[.int .u8 0,.int .i64 2,.int .i64 1,.int .u8 1,.int .i64 0]] (some 10),.int .i64 0]⟩
def x35:Fact:=⟨69,[.nilslice],.nilslice⟩
def x36:Fact:=⟨104,[.agg [.islice [[.int .u8 0,.nilslice,.int .i64 0,.int .i64 0],[.int .u8 0,.nilslice,.int .i64 0,.int .i64 0],[.int .u8 5,.islice [[.int .i64 0],[.int .i64 1]] (some 2),.int .i64 0,.int .i64 0]] (some 3),.islice [[.str [97]],[.str [98]],[.str [121]]] (some 3),.nilslice,.islice [[.int .i64 2]] (some 1)]],.bool true⟩
def x37:Fact:=⟨113,[.agg [.islice [[.int .u8 0,.nilslice,.int .i64 0,.int .i64 0],[.int .u8 0,.nilslice,.int .i64 0,.int .i64 0],[.int .u8 5,.islice [[.int .i64 0],[.int .i64 1]] (some 2),.int .i64 0,.int .i64 0]] (some 3),.islice [[.str [97]],[.str [98]],[.str [121]]] (some 3),.nilslice,.islice [[.int .i64 2]] (some 1)],.agg [.int .i64 0,.int .i64 (-1)]],.bool true⟩
def x38:Fact:=⟨75,[.agg [.islice [[.int .u8 0,.nilslice,.int .i64 0,.int .i64 0],[.int .u8 0,.nilslice,.int .i64 0,.int .i64 0],[.int .u8 5,.islice [[.int .i64 0],[.int .i64 1]] (some 2),.int .i64 0,.int .i64 0]] (some 3),.islice [[.str [97]],[.str [98]],[.str [121]]] (some 3),.nilslice,.islice [[.int .i64 2]] (some 1)],.agg [.int .u8 0,.int .i64 0,.int .i64 (-1),.int .u8 0,.int .i64 0]],.int .i64 0⟩
def x39:Fact:=⟨75,[.agg [.islice [[.int .u8 0,.nilslice,.int .i64 0,.int .i64 0],[.int .u8 0,.nilslice,.int .i64 0,.int .i64 0],[.int .u8 5,.islice [[.int .i64 0],[.int .i64 1]] (some 2),.int .i64 0,.int .i64 0]] (some 3),.islice [[.str [97]],[.str [98]],[.str [121]]] (some 3),.nilslice,.islice [[.int .i64 2]] (some 1)],.agg [.int .u8 0,.int .i64 0,.int .i64 (-1),.int .u8 1,.int .i64 0]],.int .i64 0⟩
def x40:Fact:=⟨113,[.agg [.islice [[.int .u8 0,.nilslice,.int .i64 0,.int .i64 0],[.int .u8 0,.nilslice,.int .i64 0,.int .i64 0],[.int .u8 5,.islice [[.int .i64 0],[.int .i64 1]] (some 2),.int .i64 0,.int .i64 0]] (some 3),.islice [[.str [97]],[.str [98]],[.str [121]]] (some 3),.nilslice,.islice [[.int .i64 2]] (some 1)],.agg [.int .i64 1,.int .i64 (-1)]],.bool true⟩
def x41:Fact:=⟨75,[.agg [.islice [[.int .u8 0,.nilslice,.int .i64 0,.int .i64 0],[.int .u8 0,.nilslice,.int .i64 0,.int .i64 0],[.int .u8 5,.islice [[.int .i64 0],[.int .i64 1]] (some 2),.int .i64 0,.int .i64 0]] (some 3),.islice [[.str [97]],[.str [98]],[.str [121]]] (some 3),.nilslice,.islice [[.int .i64 2]] (some 1)],.agg [.int .u8 0,.int .i64 1,.int .i64 (-1),.int .u8 0,.int .i64 0]],.int .i64 0⟩
def x42:Fact:=⟨75,[.agg [.islice [[.int .u8 0,.nilslice,.int .i64 0,.int .i64 0],[.int .u8 0,.nilslice,.int .i64 0,.int .i64 0],[.int .u8 5,.islice [[.int .i64 0],[.int .i64 1]] (some 2),.int .i64 0,.int .i64 0]] (some 3),.islice [[.str [97]],[.str [98]],[.str [121]]] (some 3),.nilslice,.islice [[.int .i64 2]] (some 1)],.agg [.int .u8 0,.int .i64 1,.int .i64 (-1),.int .u8 1,.int .i64 0]],.int .i64 0⟩
def x43:Fact:=⟨113,[.agg [.islice [[.int .u8 0,.nilslice,.int .i64 0,.int .i64 0],[.int .u8 0,.nilslice,.int .i64 0,.int .i64 0],[.int .u8 5,.islice [[.int .i64 0],[.int .i64 1]] (some 2),.int .i64 0,.int .i64 0]] (some 3),.islice [[.str [97]],[.str [98]],[.str [121]]] (some 3),.nilslice,.islice [[.int .i64 2]] (some 1)],.agg [.int .i64 2,.int .i64 (-1)]],.bool true⟩
def x44:Fact:=⟨75,[.agg [.islice [[.int .u8 0,.nilslice,.int .i64 0,.int .i64 0],[.int .u8 0,.nilslice,.int .i64 0,.int .i64 0],[.int .u8 5,.islice [[.int .i64 0],[.int .i64 1]] (some 2),.int .i64 0,.int .i64 0]] (some 3),.islice [[.str [97]],[.str [98]],[.str [121]]] (some 3),.nilslice,.islice [[.int .i64 2]] (some 1)],.agg [.int .u8 0,.int .i64 2,.int .i64 (-1),.int .u8 0,.int .i64 0]],.int .i64 0⟩
def x45:Fact:=⟨75,[.agg [.islice [[.int .u8 0,.nilslice,.int .i64 0,.int .i64 0],[.int .u8 0,.nilslice,.int .i64 0,.int .i64 0],[.int .u8 5,.islice [[.int .i64 0],[.int .i64 1]] (some 2),.int .i64 0,.int .i64 0]] (some 3),.islice [[.str [97]],[.str [98]],[.str [121]]] (some 3),.nilslice,.islice [[.int .i64 2]] (some 1)],.agg [.int .u8 0,.int .i64 2,.int .i64 (-1),.int .u8 1,.int .i64 0]],.int .i64 0⟩
def x46:Fact:=⟨113,[.agg [.islice [[.int .u8 0,.nilslice,.int .i64 0,.int .i64 0],[.int .u8 0,.nilslice,.int .i64 0,.int .i64 0],[.int .u8 5,.islice [[.int .i64 0],[.int .i64 1]] (some 2),.int .i64 0,.int .i64 0]] (some 3),.islice [[.str [97]],[.str [98]],[.str [121]]] (some 3),.nilslice,.islice [[.int .i64 2]] (some 1)],.agg [.int .i64 2,.int .i64 0]],.bool true⟩
def x47:Fact:=⟨75,[.agg [.islice [[.int .u8 0,.nilslice,.int .i64 0,.int .i64 0],[.int .u8 0,.nilslice,.int .i64 0,.int .i64 0],[.int .u8 5,.islice [[.int .i64 0],[.int .i64 1]] (some 2),.int .i64 0,.int .i64 0]] (some 3),.islice [[.str [97]],[.str [98]],[.str [121]]] (some 3),.nilslice,.islice [[.int .i64 2]] (some 1)],.agg [.int .u8 0,.int .i64 2,.int .i64 0,.int .u8 0,.int .i64 0]],.int .i64 0⟩
def x48:Fact:=⟨75,[.agg [.islice [[.int .u8 0,.nilslice,.int .i64 0,.int .i64 0],[.int .u8 0,.nilslice,.int .i64 0,.int .i64 0],[.int .u8 5,.islice [[.int .i64 0],[.int .i64 1]] (some 2),.int .i64 0,.int .i64 0]] (some 3),.islice [[.str [97]],[.str [98]],[.str [121]]] (some 3),.nilslice,.islice [[.int .i64 2]] (some 1)],.agg [.int .u8 0,.int .i64 2,.int .i64 0,.int .u8 1,.int .i64 0]],.int .i64 0⟩
def x49:Fact:=⟨113,[.agg [.islice [[.int .u8 0,.nilslice,.int .i64 0,.int .i64 0],[.int .u8 0,.nilslice,.int .i64 0,.int .i64 0],[.int .u8 5,.islice [[.int .i64 0],[.int .i64 1]] (some 2),.int .i64 0,.int .i64 0]] (some 3),.islice [[.str [97]],[.str [98]],[.str [121]]] (some 3),.nilslice,.islice [[.int .i64 2]] (some 1)],.agg [.int .i64 2,.int .i64 1]],.bool true⟩
def x50:Fact:=⟨75,[.agg [.islice [[.int .u8 0,.nilslice,.int .i64 0,.int .i64 0],[.int .u8 0,.nilslice,.int .i64 0,.int .i64 0],[.int .u8 5,.islice [[.int .i64 0],[.int .i64 1]] (some 2),.int .i64 0,.int .i64 0]] (some 3),.islice [[.str [97]],[.str [98]],[.str [121]]] (some 3),.nilslice,.islice [[.int .i64 2]] (some 1)],.agg [.int .u8 0,.int .i64 2,.int .i64 1,.int .u8 0,.int .i64 0]],.int .i64 0⟩
def x51:Fact:=⟨75,[.agg [.islice [[.int .u8 0,.nilslice,.int .i64 0,.int .i64 0],[.int .u8 0,.nilslice,.int .i64 0,.int .i64 0],[.int .u8 5,.islice [[.int .i64 0],[.int .i64 1]] (some 2),.int .i64 0,.int .i64 0]] (some 3),.islice [[.str [97]],[.str [98]],[.str [121]]] (some 3),.nilslice,.islice [[.int .i64 2]] (some 1)],.agg [.int .u8 0,.int .i64 2,.int .i64 1,.int .u8 1,.int .i64 0]],.int .i64 0⟩
def x52:Fact:=⟨53,[.agg [.islice [[.int .u8 0,.nilslice,.int .i64 0,.int .i64 0],[.int .u8 0,.nilslice,.int .i64 0,.int .i64 0],[.int .u8 5,.islice [[.int .i64 0],[.int .i64 1]] (some 2),.int .i64 0,.int .i64 0]] (some 3),.islice [[.str [97]],[.str [98]],[.str [121]]] (some 3),.nilslice,.islice [[.int .i64 2]] (some 1)]],.islice [[.int .i64 0],[.int .i64 1]] (some 2)⟩
def x53:Fact:=⟨33,[.agg [.islice [[.int .u8 0,.nilslice,.int .i64 0,.int .i64 0],[.int .u8 0,.nilslice,.int .i64 0,.int .i64 0],[.int .u8 5,.islice [[.int .i64 0],[.int .i64 1]] (some 2),.int .i64 0,.int .i64 0]] (some 3),.islice [[.str [97]],[.str [98]],[.str [121]]] (some 3),.nilslice,.islice [[.int .i64 2]] (some 1)]],.nilslice⟩
def x54:Fact:=⟨22,[.agg [.islice [[.int .u8 0,.nilslice,.int .i64 0,.int .i64 0],[.int .u8 0,.nilslice,.int .i64 0,.int .i64 0],[.int .u8 5,.islice [[.int .i64 0],[.int .i64 1]] (some 2),.int .i64 0,.int .i64 0]] (some 3),.islice [[.str [97]],[.str [98]],[.str [121]]] (some 3),.nilslice,.islice [[.int .i64 2]] (some 1)],.agg [.islice [[.int .u8 0],[.int .u8 1]] (some 2),.nilslice]],.int .i64 0⟩
def x55:Fact:=⟨78,[.agg [.islice [[.int .u8 0,.nilslice,.int .i64 0,.int .i64 0],[.int .u8 0,.nilslice,.int .i64 0,.int .i64 0],[.int .u8 5,.islice [[.int .i64 0],[.int .i64 1]] (some 2),.int .i64 0,.int .i64 0]] (some 3),.islice [[.str [97]],[.str [98]],[.str [121]]] (some 3),.nilslice,.islice [[.int .i64 2]] (some 1)],.agg [.islice [[.int .u8 0],[.int .u8 1]] (some 2),.nilslice]],.int .i64 0⟩
def x56:Fact:=⟨105,[.agg [.islice [[.int .u8 0],[.int .u8 1]] (some 2),.nilslice]],.bool true⟩
def x57:Fact:=⟨67,[.agg [.islice [[.int .u8 0,.nilslice,.int .i64 0,.int .i64 0],[.int .u8 0,.nilslice,.int .i64 0,.int .i64 0],[.int .u8 5,.islice [[.int .i64 0],[.int .i64 1]] (some 2),.int .i64 0,.int .i64 0]] (some 3),.islice [[.str [97]],[.str [98]],[.str [121]]] (some 3),.nilslice,.islice [[.int .i64 2]] (some 1)],.islice [[.int .u8 0,.int .i64 0,.int .i64 (-1),.int .u8 0,.int .i64 0],[.int .u8 0,.int .i64 0,.int .i64 (-1),.int .u8 1,.int .i64 0],[.int .u8 0,.int .i64 1,.int .i64 (-1),.int .u8 0,.int .i64 0],[.int .u8 0,.int .i64 1,.int .i64 (-1),.int .u8 1,.int .i64 0],[.int .u8 0,.int .i64 2,.int .i64 (-1),.int .u8 0,.int .i64 0],[.int .u8 0,.int .i64 2,.int .i64 (-1),.int .u8 1,.int .i64 0],[.int .u8 0,.int .i64 2,.int .i64 0,.int .u8 0,.int .i64 0],[.int .u8 0,.int .i64 2,.int .i64 0,.int .u8 1,.int .i64 0],[.int .u8 0,.int .i64 2,.int .i64 1,.int .u8 0,.int .i64 0],[.int .u8 0,.int .i64 2,.int .i64 1,.int .u8 1,.int .i64 0]] (some 10),.agg [.islice [[.int .u8 0],[.int .u8 1]] (some 2),.nilslice]],.int .i64 0⟩
def x58:Fact:=⟨51,[.int .i64 0,.int .i64 0],.int .i64 0⟩
def x59:Fact:=⟨51,[.int .i64 1,.int .i64 0],.int .i64 1⟩
def x60:Fact:=⟨21,[.agg [.islice [[.int .u8 0,.nilslice,.int .i64 0,.int .i64 0],[.int .u8 0,.nilslice,.int .i64 0,.int .i64 0],[.int .u8 5,.islice [[.int .i64 0],[.int .i64 1]] (some 2),.int .i64 0,.int .i64 0]] (some 3),.islice [[.str [97]],[.str [98]],[.str [121]]] (some 3),.nilslice,.islice [[.int .i64 2]] (some 1)]],.tuple [.islice [[.int .i64 0],[.int .i64 1],[.int .i64 2]] (some 3),.int .i64 0]⟩
def x61:Fact:=⟨65,[.nilslice],.nilslice⟩
def x62:Fact:=⟨9,[.agg [.islice [[.int .u8 0,.nilslice,.int .i64 0,.int .i64 0],[.int .u8 0,.nilslice,.int .i64 0,.int .i64 0],[.int .u8 5,.islice [[.int .i64 0],[.int .i64 1]] (some 2),.int .i64 0,.int .i64 0]] (some 3),.islice [[.str [97]],[.str [98]],[.str [121]]] (some 3),.nilslice,.islice [[.int .i64 2]] (some 1)],.agg [.islice [[.int .u8 0],[.int .u8 1]] (some 2),.nilslice]],.tuple [.agg [.islice [[.int .u8 0]] (some 1),.nilslice],.islice [[.int .u8 0],[.int .u8 1],[.int .u8 0]] (some 3),.int .i64 0]⟩
def M0:List Fact:=[]
theorem h0:∀ x ∈ M0,a0b L.env x:=a2l
theorem k0:a0b L.env x0:=a0l h0 60 (by kernel_rfl)
def M1:List Fact:=x0 :: M0
theorem h1:∀ x ∈ M1,a0b L.env x:=a07 k0 h0
theorem k1:a0b L.env x1:=a0l h1 60 (by kernel_rfl)
def M2:List Fact:=x1 :: M1
theorem h2:∀ x ∈ M2,a0b L.env x:=a07 k1 h1
theorem k2:a0b L.env x2:=a0l h2 60 (by kernel_rfl)
def M3:List Fact:=x2 :: M2
theorem h3:∀ x ∈ M3,a0b L.env x:=a07 k2 h2
theorem k3:a0b L.env x3:=a0l h3 60 (by kernel_rfl)
def M4:List Fact:=x3 :: M3
theorem h4:∀ x ∈ M4,a0b L.env x:=a07 k3 h3
theorem k4:a0b L.env x4:=a0l h4 60 (by kernel_rfl)
def M5:List Fact:=x4 :: M4
theorem h5:∀ x ∈ M5,a0b L.env x:=a07 k4 h4
theorem k5:a0b L.env x5:=a0l h5 60 (by kernel_rfl)
def M6:List Fact:=x5 :: M5
theorem h6:∀ x ∈ M6,a0b L.env x:=a07 k5 h5
theorem k6:a0b L.env x6:=a0l h6 60 (by kernel_rfl)
def M7:List Fact:=x6 :: M6
theorem h7:∀ x ∈ M7,a0b L.env x:=a07 k6 h6
theorem k7:a0b L.env x7:=a0l h7 60 (by kernel_rfl)
def M8:List Fact:=x7 :: M7
theorem h8:∀ x ∈ M8,a0b L.env x:=a07 k7 h7
theorem k8:a0b L.env x8:=a0l h8 60 (by kernel_rfl)
def M9:List Fact:=x8 :: M8
theorem h9:∀ x ∈ M9,a0b L.env x:=a07 k8 h8
theorem k9:a0b L.env x9:=a0l h9 60 (by kernel_rfl)
def M10:List Fact:=x9 :: M9
theorem h10:∀ x ∈ M10,a0b L.env x:=a07 k9 h9
theorem k10:a0b L.env x10:=a0l h10 60 (by kernel_rfl)
def M11:List Fact:=x10 :: M10
theorem h11:∀ x ∈ M11,a0b L.env x:=a07 k10 h10
theorem k11:a0b L.env x11:=a0l h11 60 (by kernel_rfl)
def M12:List Fact:=x11 :: M11
theorem h12:∀ x ∈ M12,a0b L.env x:=a07 k11 h11
theorem k12:a0b L.env x12:=a0l h12 60 (by kernel_rfl)
def M13:List Fact:=x12 :: M12
theorem h13:∀ x ∈ M13,a0b L.env x:=a07 k12 h12
theorem k13:a0b L.env x13:=a0l h13 60 (by kernel_rfl)
def M14:List Fact:=x13 :: M13
theorem h14:∀ x ∈ M14,a0b L.env x:=a07 k13 h13
theorem k14:a0b L.env x14:=a0l h14 60 (by kernel_rfl)
def M15:List Fact:=x14 :: M14
theorem h15:∀ x ∈ M15,a0b L.env x:=a07 k14 h14
theorem k15:a0b L.env x15:=a0l h15 60 (by kernel_rfl)
def M16:List Fact:=x15 :: M15
theorem h16:∀ x ∈ M16,a0b L.env x:=a07 k15 h15
theorem k16:a0b L.env x16:=a0l h16 60 (by kernel_rfl)
def M17:List Fact:=x16 :: M16
theorem h17:∀ x ∈ M17,a0b L.env x:=a07 k16 h16
theorem k17:a0b L.env x17:=a0l h17 60 (by kernel_rfl)
def M18:List Fact:=x17 :: M17
theorem h18:∀ x ∈ M18,a0b L.env x:=a07 k17 h17
theorem k18:a0b L.env x18:=a0l h18 60 (by kernel_rfl)
def M19:List Fact:=x18 :: M18
theorem h19:∀ x ∈ M19,a0b L.env x:=a07 k18 h18
theorem k19:a0b L.env x19:=a0l h19 60 (by kernel_rfl)
def M20:List Fact:=x19 :: M19
theorem h20:∀ x ∈ M20,a0b L.env x:=a07 k19 h19
theorem k20:a0b L.env x20:=a0l h20 60 (by kernel_rfl)
def M21:List Fact:=x20 :: M20
theorem h21:∀ x ∈ M21,a0b L.env x:=a07 k20 h20
theorem k21:a0b L.env x21:=a0l h21 60 (by kernel_rfl)
def M22:List Fact:=x21 :: M21
theorem h22:∀ x ∈ M22,a0b L.env x:=a07 k21 h21
theorem k22:a0b L.env x22:=a0l h22 60 (by kernel_rfl)
def M23:List Fact:=x22 :: M22
theorem h23:∀ x ∈ M23,a0b L.env x:=a07 k22 h22
theorem k23:a0b L.env x23:=a0l h23 60 (by kernel_rfl)
def M24:List Fact:=x23 :: M23
theorem h24:∀ x ∈ M24,a0b L.env x:=a07 k23 h23
theorem k24:a0b L.env x24:=a0l h24 60 (by kernel_rfl)
def M25:List Fact:=x24 :: M24
theorem h25:∀ x ∈ M25,a0b L.env x:=a07 k24 h24
theorem k25:a0b L.env x25:=a0l h25 60 (by kernel_rfl)
def M26:List Fact:=x25 :: M25
theorem h26:∀ x ∈ M26,a0b L.env x:=a07 k25 h25
theorem k26:a0b L.env x26:=a0l h26 60 (by kernel_rfl)
def M27:List Fact:=x26 :: M26
theorem h27:∀ x ∈ M27,a0b L.env x:=a07 k26 h26
theorem k27:a0b L.env x27:=a0l h27 60 (by kernel_rfl)
def M28:List Fact:=x27 :: M27
theorem h28:∀ x ∈ M28,a0b L.env x:=a07 k27 h27
theorem k28:a0b L.env x28:=a0l h28 60 (by kernel_rfl)
def M29:List Fact:=x28 :: M28
theorem h29:∀ x ∈ M29,a0b L.env x:=a07 k28 h28
theorem k29:a0b L.env x29:=a0l h29 60 (by kernel_rfl)
def M30:List Fact:=x29 :: M29
theorem h30:∀ x ∈ M30,a0b L.env x:=a07 k29 h29
theorem k30:a0b L.env x30:=a0l h30 60 (by kernel_rfl)
def M31:List Fact:=x30 :: M30
theorem h31:∀ x ∈ M31,a0b L.env x:=a07 k30 h30
theorem k31:a0b L.env x31:=a0l h31 60 (by kernel_rfl)
def M32:List Fact:=x31 :: M31
theorem h32:∀ x ∈ M32,a0b L.env x:=a07 k31 h31
theorem k32:a0b L.env x32:=a0l h32 60 (by kernel_rfl)
def M33:List Fact:=x32 :: M32
theorem h33:∀ x ∈ M33,a0b L.env x:=a07 k32 h32
theorem k33:a0b L.env x33:=a0l h33 60 (by kernel_rfl)
def M34:List Fact:=x33 :: M33
theorem h34:∀ x ∈ M34,a0b L.env x:=a07 k33 h33
theorem k34:a0b L.env x34:=a0l h34 60 (by kernel_rfl)
def M35:List Fact:=x34 :: M34
theorem h35:∀ x ∈ M35,a0b L.env x:=a07 k34 h34
theorem k35:a0b L.env x35:=a0l h35 60 (by kernel_rfl)
def M36:List Fact:=x35 :: M35
theorem h36:∀ x ∈ M36,a0b L.env x:=a07 k35 h35
theorem k36:a0b L.env x36:=a0l h36 60 (by kernel_rfl)
def M37:List Fact:=x36 :: M36
theorem h37:∀ x ∈ M37,a0b L.env x:=a07 k36 h36
theorem k37:a0b L.env x37:=a0l h37 60 (by kernel_rfl)
def M38:List Fact:=x37 :: M37
theorem h38:∀ x ∈ M38,a0b L.env x:=a07 k37 h37
theorem k38:a0b L.env x38:=a0l h38 60 (by kernel_rfl)
def M39:List Fact:=x38 :: M38
theorem h39:∀ x ∈ M39,a0b L.env x:=a07 k38 h38
theorem k39:a0b L.env x39:=a0l h39 60 (by kernel_rfl)
def M40:List Fact:=x39 :: M39
theorem h40:∀ x ∈ M40,a0b L.env x:=a07 k39 h39
theorem k40:a0b L.env x40:=a0l h40 60 (by kernel_rfl)
def M41:List Fact:=x40 :: M40
theorem h41:∀ x ∈ M41,a0b L.env x:=a07 k40 h40
theorem k41:a0b L.env x41:=a0l h41 60 (by kernel_rfl)
def M42:List Fact:=x41 :: M41
theorem h42:∀ x ∈ M42,a0b L.env x:=a07 k41 h41
theorem k42:a0b L.env x42:=a0l h42 60 (by kernel_rfl)
def M43:List Fact:=x42 :: M42
theorem h43:∀ x ∈ M43,a0b L.env x:=a07 k42 h42
theorem k43:a0b L.env x43:=a0l h43 60 (by kernel_rfl)
def M44:List Fact:=x43 :: M43
theorem h44:∀ x ∈ M44,a0b L.env x:=a07 k43 h43
theorem k44:a0b L.env x44:=a0l h44 60 (by kernel_rfl)
def M45:List Fact:=x44 :: M44
theorem h45:∀ x ∈ M45,a0b L.env x:=a07 k44 h44
theorem k45:a0b L.env x45:=a0l h45 60 (by kernel_rfl)
def M46:List Fact:=x45 :: M45
theorem h46:∀ x ∈ M46,a0b L.env x:=a07 k45 h45
theorem k46:a0b L.env x46:=a0l h46 60 (by kernel_rfl)
def M47:List Fact:=x46 :: M46
theorem h47:∀ x ∈ M47,a0b L.env x:=a07 k46 h46
theorem k47:a0b L.env x47:=a0l h47 60 (by kernel_rfl)
def M48:List Fact:=x47 :: M47
theorem h48:∀ x ∈ M48,a0b L.env x:=a07 k47 h47
theorem k48:a0b L.env x48:=a0l h48 60 (by kernel_rfl)
def M49:List Fact:=x48 :: M48
theorem h49:∀ x ∈ M49,a0b L.env x:=a07 k48 h48
theorem k49:a0b L.env x49:=a0l h49 60 (by kernel_rfl)
def M50:List Fact:=x49 :: M49
theorem h50:∀ x ∈ M50,a0b L.env x:=a07 k49 h49
theorem k50:a0b L.env x50:=a0l h50 60 (by kernel_rfl)
def M51:List Fact:=x50 :: M50
theorem h51:∀ x ∈ M51,a0b L.env x:=a07 k50 h50
theorem k51:a0b L.env x51:=a0l h51 60 (by kernel_rfl)
def M52:List Fact:=x51 :: M51
theorem h52:∀ x ∈ M52,a0b L.env x:=a07 k51 h51
theorem k52:a0b L.env x52:=a0l h52 60 (by kernel_rfl)
def M53:List Fact:=x52 :: M52
theorem h53:∀ x ∈ M53,a0b L.env x:=a07 k52 h52
theorem k53:a0b L.env x53:=a0l h53 60 (by kernel_rfl)
def M54:List Fact:=x53 :: M53
theorem h54:∀ x ∈ M54,a0b L.env x:=a07 k53 h53
theorem k54:a0b L.env x54:=a0l h54 60 (by kernel_rfl)
def M55:List Fact:=x54 :: M54
theorem h55:∀ x ∈ M55,a0b L.env x:=a07 k54 h54
theorem k55:a0b L.env x55:=a0l h55 60 (by kernel_rfl)
def M56:List Fact:=x55 :: M55
theorem h56:∀ x ∈ M56,a0b L.env x:=a07 k55 h55
theorem k56:a0b L.env x56:=a0l h56 60 (by kernel_rfl)
def M57:List Fact:=x56 :: M56
theorem h57:∀ x ∈ M57,a0b L.env x:=a07 k56 h56
theorem k57:a0b L.env x57:=a0l h57 60 (by kernel_rfl)
def M58:List Fact:=x57 :: M57
theorem h58:∀ x ∈ M58,a0b L.env x:=a07 k57 h57
theorem k58:a0b L.env x58:=a0l h58 60 (by kernel_rfl)
def M59:List Fact:=x58 :: M58
theorem h59:∀ x ∈ M59,a0b L.env x:=a07 k58 h58
theorem k59:a0b L.env x59:=a0l h59 60 (by kernel_rfl)
def M60:List Fact:=x59 :: M59
theorem h60:∀ x ∈ M60,a0b L.env x:=a07 k59 h59
theorem k60:a0b L.env x60:=a0l h60 60 (by kernel_rfl)
def M61:List Fact:=x60 :: M60
theorem h61:∀ x ∈ M61,a0b L.env x:=a07 k60 h60
theorem k61:a0b L.env x61:=a0l h61 60 (by kernel_rfl)
def M62:List Fact:=x61 :: M61
theorem h62:∀ x ∈ M62,a0b L.env x:=a07 k61 h61
theorem k62:a0b L.env x62:=a0l h62 60 (by kernel_rfl)
theorem d5f:DCalls gC gP gD:=by
 refine ⟨⟨_,a4f k33 (by kernel_rfl) (by kernel_rfl) rfl rfl⟩,?_,a4f k55 (by kernel_rfl) (by kernel_rfl) rfl rfl,⟨.islice [[.int .u8 0]] (some 1),.nilslice,rfl,rfl,a4f k62 (by kernel_rfl) (by kernel_rfl) rfl rfl⟩,a4f k60 (by kernel_rfl) (by kernel_rfl) rfl rfl,by decide,by decide,by decide,by decide⟩
 ·intro f hf
  have hf:f ∈ gF:=hf
  simp only [gF,List.mem_cons,List.not_mem_nil,or_false] at hf
  rcases hf with rfl|rfl|rfl|rfl|rfl|rfl|rfl|rfl|rfl|rfl
  ·exact a4f k38 (by kernel_rfl) (by kernel_rfl) rfl rfl
  ·exact a4f k39 (by kernel_rfl) (by kernel_rfl) rfl rfl
  ·exact a4f k41 (by kernel_rfl) (by kernel_rfl) rfl rfl
  ·exact a4f k42 (by kernel_rfl) (by kernel_rfl) rfl rfl
  ·exact a4f k44 (by kernel_rfl) (by kernel_rfl) rfl rfl
  ·exact a4f k45 (by kernel_rfl) (by kernel_rfl) rfl rfl
  ·exact a4f k47 (by kernel_rfl) (by kernel_rfl) rfl rfl
  ·exact a4f k48 (by kernel_rfl) (by kernel_rfl) rfl rfl
  ·exact a4f k50 (by kernel_rfl) (by kernel_rfl) rfl rfl
  ·exact a4f k51 (by kernel_rfl) (by kernel_rfl) rfl rfl
def x63:Fact:=⟨12,[.agg [.islice [[.int .u8 0,.nilslice,.int .i64 0,.int .i64 0],[.int .u8 0,.nilslice,.int .i64 0,.int .i64 0],[.int .u8 5,.islice [[.int .i64 0],[.int .i64 1]] (some 2),.int .i64 0,.int .i64 0]] (some 3),.islice [[.str [97]],[.str [98]],[.str [121]]] (some 3),.nilslice,.islice [[.int .i64 2]] (some 1)],.islice [[.int .u8 0,.int .i64 0,.int .i64 (-1),.int .u8 0,.int .i64 0],[.int .u8 0,.int .i64 0,.int .i64 (-1),.int .u8 1,.int .i64 0],[.int .u8 0,.int .i64 1,.int .i64 (-1),.int .u8 0,.int .i64 0],[.int .u8 0,.int .i64 1,.int .i64 (-1),.int .u8 1,.int .i64 0],[.int .u8 0,.int .i64 2,.int .i64 (-1),.int .u8 0,.int .i64 0],[.int .u8 0,.int .i64 2,.int .i64 (-1),.int .u8 1,.int .i64 0],[.int .u8 0,.int .i64 2,.int .i64 0,.int .u8 0,.int .i64 0],[.int .u8 0,.int .i64 2,.int .i64 0,.int .u8 1,.int .i64 0],[.int .u8 0,.int .i64 2,.int .i64 1,.int .u8 0,.int .i64 0],[.int .u8 0,.int .i64 2,.int .i64 1,.int .u8 1,.int .i64 0]] (some 10),.agg [.islice [[.int .u8 0],[.int .u8 1]] (some 2),.nilslice]],.tuple [.islice [[.islice [[.int .i64 1]] (some 1)],[.islice [[.int .i64 2]] (some 1)],[.islice [[.int .i64 1],[.int .i64 5],[.int .i64 7]] (some 3)]] (some 3),.int .i64 0]⟩
def x64:Fact:=⟨13,[.agg [.islice [[.int .u8 0,.nilslice,.int .i64 0,.int .i64 0],[.int .u8 0,.nilslice,.int .i64 0,.int .i64 0],[.int .u8 5,.islice [[.int .i64 0],[.int .i64 1]] (some 2),.int .i64 0,.int .i64 0]] (some 3),.islice [[.str [97]],[.str [98]],[.str [121]]] (some 3),.nilslice,.islice [[.int .i64 2]] (some 1)],.islice [[.int .u8 0,.int .i64 0,.int .i64 (-1),.int .u8 0,.int .i64 0],[.int .u8 0,.int .i64 0,.int .i64 (-1),.int .u8 1,.int .i64 0],[.int .u8 0,.int .i64 1,.int .i64 (-1),.int .u8 0,.int .i64 0],[.int .u8 0,.int .i64 1,.int .i64 (-1),.int .u8 1,.int .i64 0],[.int .u8 0,.int .i64 2,.int .i64 (-1),.int .u8 0,.int .i64 0],[.int .u8 0,.int .i64 2,.int .i64 (-1),.int .u8 1,.int .i64 0],[.int .u8 0,.int .i64 2,.int .i64 0,.int .u8 0,.int .i64 0],[.int .u8 0,.int .i64 2,.int .i64 0,.int .u8 1,.int .i64 0],[.int .u8 0,.int .i64 2,.int .i64 1,.int .u8 0,.int .i64 0],[.int .u8 0,.int .i64 2,.int .i64 1,.int .u8 1,.int .i64 0]] (some 10),.agg [.islice [[.int .u8 0],[.int .u8 1]] (some 2),.nilslice]],.tuple [.islice [[.int .i64 1],[.int .i64 5],[.int .i64 7]] (some 3),.int .i64 0]⟩
theorem k63:a0b L.env x63:=by
 have h:=c3n (rl:=some (some 10)) gM d5f
 have e:b6e gC gD = .islice [[.islice [[.int .i64 1]] (some 1)],[.islice [[.int .i64 2]] (some 1)],[.islice [[.int .i64 1],[.int .i64 5],[.int .i64 7]] (some 3)]] (some 3):=by
  show AV.islice [[dsV (gD.dset 0)],[dsV (gD.dset 1)],[dsV (gD.dset 2)]] _ = _
  rw [gS0,gS1,gS2];rfl
 rw [e] at h
 exact h
theorem k64:a0b L.env x64:=by
 have h:=e29 (rl:=some (some 10)) gM d5f (by decide) (by decide)
 rw [gSd] at h
 exact h
def Mx:List Fact:=x64 :: x63 :: x62 :: M62
theorem hx:∀ x ∈ Mx,a0b L.env x:=a07 k64 (a07 k63 (a07 k62 h62))
theorem d2f:sem L.env Mf 14 [] [] = some (.bool true,[]):=a0l hx 60 (g:=14) (args:=[]) (v:=.bool true) (by kernel_rfl)
theorem lives_call {d:Bool} (H:a03):a0g L.env d (sem L.env Mf) (.func (.func 14) [] []) [] H = some (.bool true,H,[]):=
 a04 (by kernel_rfl) (by kernel_rfl) rfl rfl d2f rfl
end Go.TInst
